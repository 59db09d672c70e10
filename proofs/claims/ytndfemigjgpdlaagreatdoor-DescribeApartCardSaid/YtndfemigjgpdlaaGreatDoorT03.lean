/-
  A PART of the proof: ApIr0, ApIr1.
-/
import Derived.Test.YtndfemigjgpdlaaGreatDoorT02
set_option linter.unusedSimpArgs false
set_option linter.unusedVariables false
namespace Go.Am
open Go.Proofs
set_option maxRecDepth 100000
noncomputable def c0_0 : AC := .cond (.t 20) .skip (.exit 0)
noncomputable def c0_1 : AC := .its ([.op (some 94) none (.mv (.t 4)), .op (some 95) none (.bin .sub (.t 94) (.c (.int .i64 8))), .op (some 4) none (.mv (.t 95))])
noncomputable def c0_2 : AC := .seq (.its ([.op (some 81) none (.mv (.t 0)), .op (some 82) none (.mv (.t 4)), .op (some 83) none (.bin .sub (.t 82) (.c (.int .i64 7))), .op (some 84) none (.mv (.t 0)), .op (some 85) none (.mv (.t 4)), .op (some 86) none (.bin .sub (.t 85) (.c (.int .i64 8))), .op (some 87) none (.mv (.t 10)), .op (some 88) none (.bin .add (.t 87) (.c (.int .u32 1))), .op (some 89) none (.idxStr (.c (.str [48, 48, 48, 49, 48, 50, 48, 51, 48, 52, 48, 53, 48, 54, 48, 55, 48, 56, 48, 57, 49, 48, 49, 49, 49, 50, 49, 51, 49, 52, 49, 53, 49, 54, 49, 55, 49, 56, 49, 57, 50, 48, 50, 49, 50, 50, 50, 51, 50, 52, 50, 53, 50, 54, 50, 55, 50, 56, 50, 57, 51, 48, 51, 49, 51, 50, 51, 51, 51, 52, 51, 53, 51, 54, 51, 55, 51, 56, 51, 57, 52, 48, 52, 49, 52, 50, 52, 51, 52, 52, 52, 53, 52, 54, 52, 55, 52, 56, 52, 57, 53, 48, 53, 49, 53, 50, 53, 51, 53, 52, 53, 53, 53, 54, 53, 55, 53, 56, 53, 57, 54, 48, 54, 49, 54, 50, 54, 51, 54, 52, 54, 53, 54, 54, 54, 55, 54, 56, 54, 57, 55, 48, 55, 49, 55, 50, 55, 51, 55, 52, 55, 53, 55, 54, 55, 55, 55, 56, 55, 57, 56, 48, 56, 49, 56, 50, 56, 51, 56, 52, 56, 53, 56, 54, 56, 55, 56, 56, 56, 57, 57, 48, 57, 49, 57, 50, 57, 51, 57, 52, 57, 53, 57, 54, 57, 55, 57, 56, 57, 57])) (.t 88)), .op (some 90) none (.mv (.t 10)), .op (some 91) none (.idxStr (.c (.str [48, 48, 48, 49, 48, 50, 48, 51, 48, 52, 48, 53, 48, 54, 48, 55, 48, 56, 48, 57, 49, 48, 49, 49, 49, 50, 49, 51, 49, 52, 49, 53, 49, 54, 49, 55, 49, 56, 49, 57, 50, 48, 50, 49, 50, 50, 50, 51, 50, 52, 50, 53, 50, 54, 50, 55, 50, 56, 50, 57, 51, 48, 51, 49, 51, 50, 51, 51, 51, 52, 51, 53, 51, 54, 51, 55, 51, 56, 51, 57, 52, 48, 52, 49, 52, 50, 52, 51, 52, 52, 52, 53, 52, 54, 52, 55, 52, 56, 52, 57, 53, 48, 53, 49, 53, 50, 53, 51, 53, 52, 53, 53, 53, 54, 53, 55, 53, 56, 53, 57, 54, 48, 54, 49, 54, 50, 54, 51, 54, 52, 54, 53, 54, 54, 54, 55, 54, 56, 54, 57, 55, 48, 55, 49, 55, 50, 55, 51, 55, 52, 55, 53, 55, 54, 55, 55, 55, 56, 55, 57, 56, 48, 56, 49, 56, 50, 56, 51, 56, 52, 56, 53, 56, 54, 56, 55, 56, 56, 56, 57, 57, 48, 57, 49, 57, 50, 57, 51, 57, 52, 57, 53, 57, 54, 57, 55, 57, 56, 57, 57])) (.t 90)), .op (some 92) none (.idxS 1 (.t 81) (.t 83)), .op none none (.store 1 (.t 92) (.t 89)), .op (some 93) none (.idxS 1 (.t 84) (.t 86)), .op none none (.store 1 (.t 93) (.t 91))])) c0_1
noncomputable def c0_3 : AC := .seq (.its ([.op (some 68) none (.mv (.t 0)), .op (some 69) none (.mv (.t 4)), .op (some 70) none (.bin .sub (.t 69) (.c (.int .i64 5))), .op (some 71) none (.mv (.t 0)), .op (some 72) none (.mv (.t 4)), .op (some 73) none (.bin .sub (.t 72) (.c (.int .i64 6))), .op (some 74) none (.mv (.t 11)), .op (some 75) none (.bin .add (.t 74) (.c (.int .u32 1))), .op (some 76) none (.idxStr (.c (.str [48, 48, 48, 49, 48, 50, 48, 51, 48, 52, 48, 53, 48, 54, 48, 55, 48, 56, 48, 57, 49, 48, 49, 49, 49, 50, 49, 51, 49, 52, 49, 53, 49, 54, 49, 55, 49, 56, 49, 57, 50, 48, 50, 49, 50, 50, 50, 51, 50, 52, 50, 53, 50, 54, 50, 55, 50, 56, 50, 57, 51, 48, 51, 49, 51, 50, 51, 51, 51, 52, 51, 53, 51, 54, 51, 55, 51, 56, 51, 57, 52, 48, 52, 49, 52, 50, 52, 51, 52, 52, 52, 53, 52, 54, 52, 55, 52, 56, 52, 57, 53, 48, 53, 49, 53, 50, 53, 51, 53, 52, 53, 53, 53, 54, 53, 55, 53, 56, 53, 57, 54, 48, 54, 49, 54, 50, 54, 51, 54, 52, 54, 53, 54, 54, 54, 55, 54, 56, 54, 57, 55, 48, 55, 49, 55, 50, 55, 51, 55, 52, 55, 53, 55, 54, 55, 55, 55, 56, 55, 57, 56, 48, 56, 49, 56, 50, 56, 51, 56, 52, 56, 53, 56, 54, 56, 55, 56, 56, 56, 57, 57, 48, 57, 49, 57, 50, 57, 51, 57, 52, 57, 53, 57, 54, 57, 55, 57, 56, 57, 57])) (.t 75)), .op (some 77) none (.mv (.t 11)), .op (some 78) none (.idxStr (.c (.str [48, 48, 48, 49, 48, 50, 48, 51, 48, 52, 48, 53, 48, 54, 48, 55, 48, 56, 48, 57, 49, 48, 49, 49, 49, 50, 49, 51, 49, 52, 49, 53, 49, 54, 49, 55, 49, 56, 49, 57, 50, 48, 50, 49, 50, 50, 50, 51, 50, 52, 50, 53, 50, 54, 50, 55, 50, 56, 50, 57, 51, 48, 51, 49, 51, 50, 51, 51, 51, 52, 51, 53, 51, 54, 51, 55, 51, 56, 51, 57, 52, 48, 52, 49, 52, 50, 52, 51, 52, 52, 52, 53, 52, 54, 52, 55, 52, 56, 52, 57, 53, 48, 53, 49, 53, 50, 53, 51, 53, 52, 53, 53, 53, 54, 53, 55, 53, 56, 53, 57, 54, 48, 54, 49, 54, 50, 54, 51, 54, 52, 54, 53, 54, 54, 54, 55, 54, 56, 54, 57, 55, 48, 55, 49, 55, 50, 55, 51, 55, 52, 55, 53, 55, 54, 55, 55, 55, 56, 55, 57, 56, 48, 56, 49, 56, 50, 56, 51, 56, 52, 56, 53, 56, 54, 56, 55, 56, 56, 56, 57, 57, 48, 57, 49, 57, 50, 57, 51, 57, 52, 57, 53, 57, 54, 57, 55, 57, 56, 57, 57])) (.t 77)), .op (some 79) none (.idxS 1 (.t 68) (.t 70)), .op none none (.store 1 (.t 79) (.t 76)), .op (some 80) none (.idxS 1 (.t 71) (.t 73)), .op none none (.store 1 (.t 80) (.t 78))])) c0_2
noncomputable def c0_4 : AC := .seq (.its ([.op (some 55) none (.mv (.t 0)), .op (some 56) none (.mv (.t 4)), .op (some 57) none (.bin .sub (.t 56) (.c (.int .i64 3))), .op (some 58) none (.mv (.t 0)), .op (some 59) none (.mv (.t 4)), .op (some 60) none (.bin .sub (.t 59) (.c (.int .i64 4))), .op (some 61) none (.mv (.t 8)), .op (some 62) none (.bin .add (.t 61) (.c (.int .u32 1))), .op (some 63) none (.idxStr (.c (.str [48, 48, 48, 49, 48, 50, 48, 51, 48, 52, 48, 53, 48, 54, 48, 55, 48, 56, 48, 57, 49, 48, 49, 49, 49, 50, 49, 51, 49, 52, 49, 53, 49, 54, 49, 55, 49, 56, 49, 57, 50, 48, 50, 49, 50, 50, 50, 51, 50, 52, 50, 53, 50, 54, 50, 55, 50, 56, 50, 57, 51, 48, 51, 49, 51, 50, 51, 51, 51, 52, 51, 53, 51, 54, 51, 55, 51, 56, 51, 57, 52, 48, 52, 49, 52, 50, 52, 51, 52, 52, 52, 53, 52, 54, 52, 55, 52, 56, 52, 57, 53, 48, 53, 49, 53, 50, 53, 51, 53, 52, 53, 53, 53, 54, 53, 55, 53, 56, 53, 57, 54, 48, 54, 49, 54, 50, 54, 51, 54, 52, 54, 53, 54, 54, 54, 55, 54, 56, 54, 57, 55, 48, 55, 49, 55, 50, 55, 51, 55, 52, 55, 53, 55, 54, 55, 55, 55, 56, 55, 57, 56, 48, 56, 49, 56, 50, 56, 51, 56, 52, 56, 53, 56, 54, 56, 55, 56, 56, 56, 57, 57, 48, 57, 49, 57, 50, 57, 51, 57, 52, 57, 53, 57, 54, 57, 55, 57, 56, 57, 57])) (.t 62)), .op (some 64) none (.mv (.t 8)), .op (some 65) none (.idxStr (.c (.str [48, 48, 48, 49, 48, 50, 48, 51, 48, 52, 48, 53, 48, 54, 48, 55, 48, 56, 48, 57, 49, 48, 49, 49, 49, 50, 49, 51, 49, 52, 49, 53, 49, 54, 49, 55, 49, 56, 49, 57, 50, 48, 50, 49, 50, 50, 50, 51, 50, 52, 50, 53, 50, 54, 50, 55, 50, 56, 50, 57, 51, 48, 51, 49, 51, 50, 51, 51, 51, 52, 51, 53, 51, 54, 51, 55, 51, 56, 51, 57, 52, 48, 52, 49, 52, 50, 52, 51, 52, 52, 52, 53, 52, 54, 52, 55, 52, 56, 52, 57, 53, 48, 53, 49, 53, 50, 53, 51, 53, 52, 53, 53, 53, 54, 53, 55, 53, 56, 53, 57, 54, 48, 54, 49, 54, 50, 54, 51, 54, 52, 54, 53, 54, 54, 54, 55, 54, 56, 54, 57, 55, 48, 55, 49, 55, 50, 55, 51, 55, 52, 55, 53, 55, 54, 55, 55, 55, 56, 55, 57, 56, 48, 56, 49, 56, 50, 56, 51, 56, 52, 56, 53, 56, 54, 56, 55, 56, 56, 56, 57, 57, 48, 57, 49, 57, 50, 57, 51, 57, 52, 57, 53, 57, 54, 57, 55, 57, 56, 57, 57])) (.t 64)), .op (some 66) none (.idxS 1 (.t 55) (.t 57)), .op none none (.store 1 (.t 66) (.t 63)), .op (some 67) none (.idxS 1 (.t 58) (.t 60)), .op none none (.store 1 (.t 67) (.t 65))])) c0_3
noncomputable def c0_5 : AC := .seq (.its ([.op (some 42) none (.mv (.t 0)), .op (some 43) none (.mv (.t 4)), .op (some 44) none (.bin .sub (.t 43) (.c (.int .i64 1))), .op (some 45) none (.mv (.t 0)), .op (some 46) none (.mv (.t 4)), .op (some 47) none (.bin .sub (.t 46) (.c (.int .i64 2))), .op (some 48) none (.mv (.t 9)), .op (some 49) none (.bin .add (.t 48) (.c (.int .u32 1))), .op (some 50) none (.idxStr (.c (.str [48, 48, 48, 49, 48, 50, 48, 51, 48, 52, 48, 53, 48, 54, 48, 55, 48, 56, 48, 57, 49, 48, 49, 49, 49, 50, 49, 51, 49, 52, 49, 53, 49, 54, 49, 55, 49, 56, 49, 57, 50, 48, 50, 49, 50, 50, 50, 51, 50, 52, 50, 53, 50, 54, 50, 55, 50, 56, 50, 57, 51, 48, 51, 49, 51, 50, 51, 51, 51, 52, 51, 53, 51, 54, 51, 55, 51, 56, 51, 57, 52, 48, 52, 49, 52, 50, 52, 51, 52, 52, 52, 53, 52, 54, 52, 55, 52, 56, 52, 57, 53, 48, 53, 49, 53, 50, 53, 51, 53, 52, 53, 53, 53, 54, 53, 55, 53, 56, 53, 57, 54, 48, 54, 49, 54, 50, 54, 51, 54, 52, 54, 53, 54, 54, 54, 55, 54, 56, 54, 57, 55, 48, 55, 49, 55, 50, 55, 51, 55, 52, 55, 53, 55, 54, 55, 55, 55, 56, 55, 57, 56, 48, 56, 49, 56, 50, 56, 51, 56, 52, 56, 53, 56, 54, 56, 55, 56, 56, 56, 57, 57, 48, 57, 49, 57, 50, 57, 51, 57, 52, 57, 53, 57, 54, 57, 55, 57, 56, 57, 57])) (.t 49)), .op (some 51) none (.mv (.t 9)), .op (some 52) none (.idxStr (.c (.str [48, 48, 48, 49, 48, 50, 48, 51, 48, 52, 48, 53, 48, 54, 48, 55, 48, 56, 48, 57, 49, 48, 49, 49, 49, 50, 49, 51, 49, 52, 49, 53, 49, 54, 49, 55, 49, 56, 49, 57, 50, 48, 50, 49, 50, 50, 50, 51, 50, 52, 50, 53, 50, 54, 50, 55, 50, 56, 50, 57, 51, 48, 51, 49, 51, 50, 51, 51, 51, 52, 51, 53, 51, 54, 51, 55, 51, 56, 51, 57, 52, 48, 52, 49, 52, 50, 52, 51, 52, 52, 52, 53, 52, 54, 52, 55, 52, 56, 52, 57, 53, 48, 53, 49, 53, 50, 53, 51, 53, 52, 53, 53, 53, 54, 53, 55, 53, 56, 53, 57, 54, 48, 54, 49, 54, 50, 54, 51, 54, 52, 54, 53, 54, 54, 54, 55, 54, 56, 54, 57, 55, 48, 55, 49, 55, 50, 55, 51, 55, 52, 55, 53, 55, 54, 55, 55, 55, 56, 55, 57, 56, 48, 56, 49, 56, 50, 56, 51, 56, 52, 56, 53, 56, 54, 56, 55, 56, 56, 56, 57, 57, 48, 57, 49, 57, 50, 57, 51, 57, 52, 57, 53, 57, 54, 57, 55, 57, 56, 57, 57])) (.t 51)), .op (some 53) none (.idxS 1 (.t 42) (.t 44)), .op none none (.store 1 (.t 53) (.t 50)), .op (some 54) none (.idxS 1 (.t 45) (.t 47)), .op none none (.store 1 (.t 54) (.t 52))])) c0_4
noncomputable def c0_6 : AC := .seq (.its ([.op (some 36) none (.mv (.t 6)), .op (some 37) none (.bin .quo (.t 36) (.c (.int .u32 100))), .op (some 38) none (.bin .mul (.t 37) (.c (.int .u32 2))), .op (some 39) none (.mv (.t 6)), .op (some 40) none (.bin .rem (.t 39) (.c (.int .u32 100))), .op (some 41) none (.bin .mul (.t 40) (.c (.int .u32 2))), .op (some 10) none (.mv (.t 38)), .op (some 11) none (.mv (.t 41))])) c0_5
noncomputable def c0_7 : AC := .seq (.its ([.op (some 30) none (.mv (.t 7)), .op (some 31) none (.bin .quo (.t 30) (.c (.int .u32 100))), .op (some 32) none (.bin .mul (.t 31) (.c (.int .u32 2))), .op (some 33) none (.mv (.t 7)), .op (some 34) none (.bin .rem (.t 33) (.c (.int .u32 100))), .op (some 35) none (.bin .mul (.t 34) (.c (.int .u32 2))), .op (some 8) none (.mv (.t 32)), .op (some 9) none (.mv (.t 35))])) c0_6
noncomputable def c0_8 : AC := .seq (.its ([.op (some 26) none (.mv (.t 5)), .op (some 27) none (.bin .quo (.t 26) (.c (.int .u32 10000))), .op (some 28) none (.mv (.t 5)), .op (some 29) none (.bin .rem (.t 28) (.c (.int .u32 10000))), .op (some 6) none (.mv (.t 27)), .op (some 7) none (.mv (.t 29))])) c0_7
noncomputable def c0_9 : AC := .seq (.its ([.op (some 24) none (.mv (.t 1)), .op (some 25) none (.bin .quo (.t 24) (.c (.int .u64 100000000))), .op (some 1) none (.mv (.t 25))])) c0_8
noncomputable def c0_10 : AC := .seq (.its ([.op (some 21) none (.mv (.t 1)), .op (some 22) none (.bin .rem (.t 21) (.c (.int .u64 100000000))), .op (some 23) none (.conv .u32 (.t 22)), .op (some 5) none (.mv (.t 23))])) c0_9
noncomputable def c0_11 : AC := .block 1 c0_10
noncomputable def c0_12 : AC := .seq (.seq (.its ([.op (some 19) none (.mv (.t 4)), .op (some 20) none (.bin .geq (.t 19) (.c (.int .i64 8)))])) c0_0) c0_11
noncomputable def c0_13 : AC := .loop c0_12
noncomputable def c0_14 : AC := .its ([.op (some 136) none (.mv (.t 4)), .op (some 137) none (.bin .sub (.t 136) (.c (.int .i64 4))), .op (some 4) none (.mv (.t 137))])
noncomputable def c0_15 : AC := .seq (.its ([.op (some 123) none (.mv (.t 0)), .op (some 124) none (.mv (.t 4)), .op (some 125) none (.bin .sub (.t 124) (.c (.int .i64 3))), .op (some 126) none (.mv (.t 0)), .op (some 127) none (.mv (.t 4)), .op (some 128) none (.bin .sub (.t 127) (.c (.int .i64 4))), .op (some 129) none (.mv (.t 14)), .op (some 130) none (.bin .add (.t 129) (.c (.int .u32 1))), .op (some 131) none (.idxStr (.c (.str [48, 48, 48, 49, 48, 50, 48, 51, 48, 52, 48, 53, 48, 54, 48, 55, 48, 56, 48, 57, 49, 48, 49, 49, 49, 50, 49, 51, 49, 52, 49, 53, 49, 54, 49, 55, 49, 56, 49, 57, 50, 48, 50, 49, 50, 50, 50, 51, 50, 52, 50, 53, 50, 54, 50, 55, 50, 56, 50, 57, 51, 48, 51, 49, 51, 50, 51, 51, 51, 52, 51, 53, 51, 54, 51, 55, 51, 56, 51, 57, 52, 48, 52, 49, 52, 50, 52, 51, 52, 52, 52, 53, 52, 54, 52, 55, 52, 56, 52, 57, 53, 48, 53, 49, 53, 50, 53, 51, 53, 52, 53, 53, 53, 54, 53, 55, 53, 56, 53, 57, 54, 48, 54, 49, 54, 50, 54, 51, 54, 52, 54, 53, 54, 54, 54, 55, 54, 56, 54, 57, 55, 48, 55, 49, 55, 50, 55, 51, 55, 52, 55, 53, 55, 54, 55, 55, 55, 56, 55, 57, 56, 48, 56, 49, 56, 50, 56, 51, 56, 52, 56, 53, 56, 54, 56, 55, 56, 56, 56, 57, 57, 48, 57, 49, 57, 50, 57, 51, 57, 52, 57, 53, 57, 54, 57, 55, 57, 56, 57, 57])) (.t 130)), .op (some 132) none (.mv (.t 14)), .op (some 133) none (.idxStr (.c (.str [48, 48, 48, 49, 48, 50, 48, 51, 48, 52, 48, 53, 48, 54, 48, 55, 48, 56, 48, 57, 49, 48, 49, 49, 49, 50, 49, 51, 49, 52, 49, 53, 49, 54, 49, 55, 49, 56, 49, 57, 50, 48, 50, 49, 50, 50, 50, 51, 50, 52, 50, 53, 50, 54, 50, 55, 50, 56, 50, 57, 51, 48, 51, 49, 51, 50, 51, 51, 51, 52, 51, 53, 51, 54, 51, 55, 51, 56, 51, 57, 52, 48, 52, 49, 52, 50, 52, 51, 52, 52, 52, 53, 52, 54, 52, 55, 52, 56, 52, 57, 53, 48, 53, 49, 53, 50, 53, 51, 53, 52, 53, 53, 53, 54, 53, 55, 53, 56, 53, 57, 54, 48, 54, 49, 54, 50, 54, 51, 54, 52, 54, 53, 54, 54, 54, 55, 54, 56, 54, 57, 55, 48, 55, 49, 55, 50, 55, 51, 55, 52, 55, 53, 55, 54, 55, 55, 55, 56, 55, 57, 56, 48, 56, 49, 56, 50, 56, 51, 56, 52, 56, 53, 56, 54, 56, 55, 56, 56, 56, 57, 57, 48, 57, 49, 57, 50, 57, 51, 57, 52, 57, 53, 57, 54, 57, 55, 57, 56, 57, 57])) (.t 132)), .op (some 134) none (.idxS 1 (.t 123) (.t 125)), .op none none (.store 1 (.t 134) (.t 131)), .op (some 135) none (.idxS 1 (.t 126) (.t 128)), .op none none (.store 1 (.t 135) (.t 133))])) c0_14
noncomputable def c0_16 : AC := .seq (.its ([.op (some 110) none (.mv (.t 0)), .op (some 111) none (.mv (.t 4)), .op (some 112) none (.bin .sub (.t 111) (.c (.int .i64 1))), .op (some 113) none (.mv (.t 0)), .op (some 114) none (.mv (.t 4)), .op (some 115) none (.bin .sub (.t 114) (.c (.int .i64 2))), .op (some 116) none (.mv (.t 15)), .op (some 117) none (.bin .add (.t 116) (.c (.int .u32 1))), .op (some 118) none (.idxStr (.c (.str [48, 48, 48, 49, 48, 50, 48, 51, 48, 52, 48, 53, 48, 54, 48, 55, 48, 56, 48, 57, 49, 48, 49, 49, 49, 50, 49, 51, 49, 52, 49, 53, 49, 54, 49, 55, 49, 56, 49, 57, 50, 48, 50, 49, 50, 50, 50, 51, 50, 52, 50, 53, 50, 54, 50, 55, 50, 56, 50, 57, 51, 48, 51, 49, 51, 50, 51, 51, 51, 52, 51, 53, 51, 54, 51, 55, 51, 56, 51, 57, 52, 48, 52, 49, 52, 50, 52, 51, 52, 52, 52, 53, 52, 54, 52, 55, 52, 56, 52, 57, 53, 48, 53, 49, 53, 50, 53, 51, 53, 52, 53, 53, 53, 54, 53, 55, 53, 56, 53, 57, 54, 48, 54, 49, 54, 50, 54, 51, 54, 52, 54, 53, 54, 54, 54, 55, 54, 56, 54, 57, 55, 48, 55, 49, 55, 50, 55, 51, 55, 52, 55, 53, 55, 54, 55, 55, 55, 56, 55, 57, 56, 48, 56, 49, 56, 50, 56, 51, 56, 52, 56, 53, 56, 54, 56, 55, 56, 56, 56, 57, 57, 48, 57, 49, 57, 50, 57, 51, 57, 52, 57, 53, 57, 54, 57, 55, 57, 56, 57, 57])) (.t 117)), .op (some 119) none (.mv (.t 15)), .op (some 120) none (.idxStr (.c (.str [48, 48, 48, 49, 48, 50, 48, 51, 48, 52, 48, 53, 48, 54, 48, 55, 48, 56, 48, 57, 49, 48, 49, 49, 49, 50, 49, 51, 49, 52, 49, 53, 49, 54, 49, 55, 49, 56, 49, 57, 50, 48, 50, 49, 50, 50, 50, 51, 50, 52, 50, 53, 50, 54, 50, 55, 50, 56, 50, 57, 51, 48, 51, 49, 51, 50, 51, 51, 51, 52, 51, 53, 51, 54, 51, 55, 51, 56, 51, 57, 52, 48, 52, 49, 52, 50, 52, 51, 52, 52, 52, 53, 52, 54, 52, 55, 52, 56, 52, 57, 53, 48, 53, 49, 53, 50, 53, 51, 53, 52, 53, 53, 53, 54, 53, 55, 53, 56, 53, 57, 54, 48, 54, 49, 54, 50, 54, 51, 54, 52, 54, 53, 54, 54, 54, 55, 54, 56, 54, 57, 55, 48, 55, 49, 55, 50, 55, 51, 55, 52, 55, 53, 55, 54, 55, 55, 55, 56, 55, 57, 56, 48, 56, 49, 56, 50, 56, 51, 56, 52, 56, 53, 56, 54, 56, 55, 56, 56, 56, 57, 57, 48, 57, 49, 57, 50, 57, 51, 57, 52, 57, 53, 57, 54, 57, 55, 57, 56, 57, 57])) (.t 119)), .op (some 121) none (.idxS 1 (.t 110) (.t 112)), .op none none (.store 1 (.t 121) (.t 118)), .op (some 122) none (.idxS 1 (.t 113) (.t 115)), .op none none (.store 1 (.t 122) (.t 120))])) c0_15
noncomputable def c0_17 : AC := .seq (.its ([.op (some 104) none (.mv (.t 13)), .op (some 105) none (.bin .quo (.t 104) (.c (.int .u32 100))), .op (some 106) none (.bin .mul (.t 105) (.c (.int .u32 2))), .op (some 107) none (.mv (.t 13)), .op (some 108) none (.bin .rem (.t 107) (.c (.int .u32 100))), .op (some 109) none (.bin .mul (.t 108) (.c (.int .u32 2))), .op (some 14) none (.mv (.t 106)), .op (some 15) none (.mv (.t 109))])) c0_16
noncomputable def c0_18 : AC := .seq (.its ([.op (some 102) none (.mv (.t 12)), .op (some 103) none (.bin .quo (.t 102) (.c (.int .u32 10000))), .op (some 12) none (.mv (.t 103))])) c0_17
noncomputable def c0_19 : AC := .seq (.its ([.op (some 100) none (.mv (.t 12)), .op (some 101) none (.bin .rem (.t 100) (.c (.int .u32 10000))), .op (some 13) none (.mv (.t 101))])) c0_18
noncomputable def c0_20 : AC := .cond (.t 99) c0_19 .skip
noncomputable def c0_21 : AC := .its ([.op (some 158) none (.mv (.t 4)), .op (some 159) none (.bin .sub (.t 158) (.c (.int .i64 2))), .op (some 4) none (.mv (.t 159))])
noncomputable def c0_22 : AC := .seq (.its ([.op (some 145) none (.mv (.t 0)), .op (some 146) none (.mv (.t 4)), .op (some 147) none (.bin .sub (.t 146) (.c (.int .i64 1))), .op (some 148) none (.mv (.t 0)), .op (some 149) none (.mv (.t 4)), .op (some 150) none (.bin .sub (.t 149) (.c (.int .i64 2))), .op (some 151) none (.mv (.t 16)), .op (some 152) none (.bin .add (.t 151) (.c (.int .u32 1))), .op (some 153) none (.idxStr (.c (.str [48, 48, 48, 49, 48, 50, 48, 51, 48, 52, 48, 53, 48, 54, 48, 55, 48, 56, 48, 57, 49, 48, 49, 49, 49, 50, 49, 51, 49, 52, 49, 53, 49, 54, 49, 55, 49, 56, 49, 57, 50, 48, 50, 49, 50, 50, 50, 51, 50, 52, 50, 53, 50, 54, 50, 55, 50, 56, 50, 57, 51, 48, 51, 49, 51, 50, 51, 51, 51, 52, 51, 53, 51, 54, 51, 55, 51, 56, 51, 57, 52, 48, 52, 49, 52, 50, 52, 51, 52, 52, 52, 53, 52, 54, 52, 55, 52, 56, 52, 57, 53, 48, 53, 49, 53, 50, 53, 51, 53, 52, 53, 53, 53, 54, 53, 55, 53, 56, 53, 57, 54, 48, 54, 49, 54, 50, 54, 51, 54, 52, 54, 53, 54, 54, 54, 55, 54, 56, 54, 57, 55, 48, 55, 49, 55, 50, 55, 51, 55, 52, 55, 53, 55, 54, 55, 55, 55, 56, 55, 57, 56, 48, 56, 49, 56, 50, 56, 51, 56, 52, 56, 53, 56, 54, 56, 55, 56, 56, 56, 57, 57, 48, 57, 49, 57, 50, 57, 51, 57, 52, 57, 53, 57, 54, 57, 55, 57, 56, 57, 57])) (.t 152)), .op (some 154) none (.mv (.t 16)), .op (some 155) none (.idxStr (.c (.str [48, 48, 48, 49, 48, 50, 48, 51, 48, 52, 48, 53, 48, 54, 48, 55, 48, 56, 48, 57, 49, 48, 49, 49, 49, 50, 49, 51, 49, 52, 49, 53, 49, 54, 49, 55, 49, 56, 49, 57, 50, 48, 50, 49, 50, 50, 50, 51, 50, 52, 50, 53, 50, 54, 50, 55, 50, 56, 50, 57, 51, 48, 51, 49, 51, 50, 51, 51, 51, 52, 51, 53, 51, 54, 51, 55, 51, 56, 51, 57, 52, 48, 52, 49, 52, 50, 52, 51, 52, 52, 52, 53, 52, 54, 52, 55, 52, 56, 52, 57, 53, 48, 53, 49, 53, 50, 53, 51, 53, 52, 53, 53, 53, 54, 53, 55, 53, 56, 53, 57, 54, 48, 54, 49, 54, 50, 54, 51, 54, 52, 54, 53, 54, 54, 54, 55, 54, 56, 54, 57, 55, 48, 55, 49, 55, 50, 55, 51, 55, 52, 55, 53, 55, 54, 55, 55, 55, 56, 55, 57, 56, 48, 56, 49, 56, 50, 56, 51, 56, 52, 56, 53, 56, 54, 56, 55, 56, 56, 56, 57, 57, 48, 57, 49, 57, 50, 57, 51, 57, 52, 57, 53, 57, 54, 57, 55, 57, 56, 57, 57])) (.t 154)), .op (some 156) none (.idxS 1 (.t 145) (.t 147)), .op none none (.store 1 (.t 156) (.t 153)), .op (some 157) none (.idxS 1 (.t 148) (.t 150)), .op none none (.store 1 (.t 157) (.t 155))])) c0_21
noncomputable def c0_23 : AC := .seq (.its ([.op (some 143) none (.mv (.t 12)), .op (some 144) none (.bin .quo (.t 143) (.c (.int .u32 100))), .op (some 12) none (.mv (.t 144))])) c0_22
noncomputable def c0_24 : AC := .seq (.its ([.op (some 140) none (.mv (.t 12)), .op (some 141) none (.bin .rem (.t 140) (.c (.int .u32 100))), .op (some 142) none (.bin .mul (.t 141) (.c (.int .u32 2))), .op (some 16) none (.mv (.t 142))])) c0_23
noncomputable def c0_25 : AC := .cond (.t 139) c0_24 .skip
noncomputable def c0_26 : AC := .its ([.op (some 162) none (.mv (.t 0)), .op (some 163) none (.mv (.t 12)), .op (some 164) none (.bin .add (.c (.int .u32 48)) (.t 163)), .op (some 165) none (.conv .u8 (.t 164)), .op (some 166) none (.idxS 1 (.t 162) (.c (.int .i64 0))), .op none none (.store 1 (.t 166) (.t 165))])
noncomputable def c0_27 : AC := .cond (.t 161) c0_26 .skip
noncomputable def c0_28 : AC := .seq (.its ([.op (some 160) none (.mv (.t 4)), .op (some 161) none (.bin .gtr (.t 160) (.c (.int .i64 0)))])) c0_27
noncomputable def c0_29 : AC := .seq (.seq (.its ([.op (some 138) none (.mv (.t 4)), .op (some 139) none (.bin .geq (.t 138) (.c (.int .i64 2)))])) c0_25) c0_28
noncomputable def c0_30 : AC := .seq (.seq (.its ([.op (some 98) none (.mv (.t 4)), .op (some 99) none (.bin .geq (.t 98) (.c (.int .i64 4)))])) c0_20) c0_29
noncomputable def c0_31 : AC := .seq (.its ([.op (some 96) none (.mv (.t 1)), .op (some 97) none (.conv .u32 (.t 96)), .op (some 12) none (.mv (.t 97))])) c0_30
noncomputable def c0_32 : AC := .seq (.block 0 c0_13) c0_31
noncomputable def c0_33 : AC := .seq (.its ([.op (some 17) none (.mv (.t 0)), .op (some 18) none (.len .slice (.t 17)), .op (some 4) none (.mv (.t 18))])) c0_32
noncomputable def i_istrconv_formatBase10 : AFunc := ⟨167, [], c0_33⟩
theorem rf_istrconv_formatBase10 : resF Go.Proofs.Tryz.prog n_istrconv_formatBase10 = some i_istrconv_formatBase10 := by kernel_rfl
noncomputable def c1_0 : List It := [.op (some 5) none (.alloc [.nilFunc, .int .i64 0, .int .i64 0, .int .i64 0, .nilFunc, .int .i64 0, .int .i64 0, .int .i64 0, .nilFunc, .int .i64 0, .int .i64 0, .int .i64 0, .nilFunc, .int .i64 0, .int .i64 0, .int .i64 0, .nilFunc, .int .i64 0, .int .i64 0, .int .i64 0, .nilFunc, .int .i64 0, .int .i64 0, .int .i64 0, .nilFunc, .int .i64 0, .int .i64 0, .int .i64 0, .nilFunc, .int .i64 0, .int .i64 0, .int .i64 0, .nilFunc, .int .i64 0, .int .i64 0, .int .i64 0, .nilFunc, .int .i64 0, .int .i64 0, .int .i64 0, .nilFunc, .int .i64 0, .int .i64 0, .int .i64 0, .nilFunc, .int .i64 0, .int .i64 0, .int .i64 0, .nilFunc, .int .i64 0, .int .i64 0, .int .i64 0, .nilFunc, .int .i64 0, .int .i64 0, .int .i64 0, .nilFunc, .int .i64 0, .int .i64 0, .int .i64 0, .nilFunc, .int .i64 0, .int .i64 0, .int .i64 0, .nilFunc, .int .i64 0, .int .i64 0, .int .i64 0]), .op none none (.store 68 (.t 5) (.t 7))]
noncomputable def c1_1 : AC := .seq (.its ([.op (some 4) none (.mv (.c (.bool false)))])) .ret
noncomputable def c1_2 : AC := .cond (.t 19) c1_1 .skip
noncomputable def c1_3 : List It := [.op (some 34) (some (28, false)) (.un .not (.t 33)), .op (some 35) none (.pick (.t 28) (.c (.bool true)) (.t 34)), .op (some 36) none (.mv (.t 35)), .op (some 37) (some (36, false)) (.fieldAddr 2 (.t 2)), .op (some 38) (some (36, false)) (.load none (.t 37)), .op (some 39) (some (36, false)) (.len .slice (.t 38)), .op (some 40) (some (36, false)) (.fieldAddr 1 (.t 6)), .op (some 41) (some (36, false)) (.load none (.t 40)), .op (some 42) (some (36, false)) (.bin .gtr (.t 39) (.t 41)), .op (some 43) none (.pick (.t 36) (.c (.bool true)) (.t 42)), .op (some 44) none (.mv (.t 43)), .op (some 45) (some (44, false)) (.fieldAddr 3 (.t 2)), .op (some 46) (some (44, false)) (.load none (.t 45)), .op (some 47) (some (44, false)) (.len .slice (.t 46)), .op (some 48) (some (44, false)) (.fieldAddr 2 (.t 6)), .op (some 49) (some (44, false)) (.load none (.t 48)), .op (some 50) (some (44, false)) (.bin .neq (.t 47) (.t 49)), .op (some 51) none (.pick (.t 44) (.c (.bool true)) (.t 50))]
noncomputable def c1_4 : AC := .seq (.its ([.op (some 4) none (.mv (.c (.bool false)))])) .ret
noncomputable def c1_5 : AC := .cond (.t 51) c1_4 .skip
noncomputable def c1_6 : List It := [.op (some 87) none (.pick (.t 80) (.t 86) (.c (.bool false))), .op (some 88) none (.mv (.t 87)), .op (some 89) (some (88, true)) (.fieldAddr 2 (.t 2)), .op (some 90) (some (88, true)) (.load none (.t 89)), .op (some 91) (some (88, true)) (.idxS 3 (.t 90) (.c (.int .i64 1))), .op (some 92) (some (88, true)) (.fieldAddr 2 (.t 91)), .op (some 93) (some (88, true)) (.load none (.t 92)), .op (some 94) (some (88, true)) (.len .slice (.t 93)), .op (some 95) (some (88, true)) (.bin .eql (.t 94) (.c (.int .i64 0))), .op (some 96) none (.pick (.t 88) (.t 95) (.c (.bool false))), .op (some 4) none (.mv (.t 96))]
noncomputable def c1_7 : List It := .op (some 65) none (.pick (.t 59) (.t 64) (.c (.bool false))) :: .op (some 66) none (.mv (.t 65)) :: .op (some 67) (some (66, true)) (.fieldAddr 2 (.t 2)) :: .op (some 68) (some (66, true)) (.load none (.t 67)) :: .op (some 69) (some (66, true)) (.idxS 3 (.t 68) (.c (.int .i64 0))) :: .op (some 70) (some (66, true)) (.fieldAddr 0 (.t 69)) :: .op (some 71) (some (66, true)) (.load none (.t 70)) :: .op (some 72) none (.pick (.t 66) (.t 71) (.c (.bool false))) :: .op (some 73) none (.mv (.t 72)) :: .op (some 74) (some (73, true)) (.fieldAddr 2 (.t 2)) :: .op (some 75) (some (73, true)) (.load none (.t 74)) :: .op (some 76) (some (73, true)) (.idxS 3 (.t 75) (.c (.int .i64 1))) :: .op (some 77) (some (73, true)) (.fieldAddr 0 (.t 76)) :: .op (some 78) (some (73, true)) (.load none (.t 77)) :: .op (some 79) none (.pick (.t 73) (.t 78) (.c (.bool false))) :: .op (some 80) none (.mv (.t 79)) :: .op (some 81) (some (80, true)) (.fieldAddr 2 (.t 2)) :: .op (some 82) (some (80, true)) (.load none (.t 81)) :: .op (some 83) (some (80, true)) (.idxS 3 (.t 82) (.c (.int .i64 1))) :: .op (some 84) (some (80, true)) (.fieldAddr 1 (.t 83)) :: .op (some 85) (some (80, true)) (.load none (.t 84)) :: .call (some 86) (some (80, true)) (.c (.func (.func n_syntax_ofTerms) [] [])) [.t 85] :: c1_6
noncomputable def c1_8 : AC := .seq (.its (.op (some 55) none (.fieldAddr 2 (.t 2)) :: .op (some 56) none (.load none (.t 55)) :: .op (some 57) none (.len .slice (.t 56)) :: .op (some 58) none (.bin .eql (.t 57) (.c (.int .i64 2))) :: .op (some 59) none (.mv (.t 58)) :: .op (some 60) (some (59, true)) (.fieldAddr 2 (.t 2)) :: .op (some 61) (some (59, true)) (.load none (.t 60)) :: .op (some 62) (some (59, true)) (.idxS 3 (.t 61) (.c (.int .i64 0))) :: .op (some 63) (some (59, true)) (.load (some 3) (.t 62)) :: .call (some 64) (some (59, true)) (.c (.func (.func n_syntax_term) [] [])) [.t 63, .c (.int .i64 0)] :: c1_7)) .ret
noncomputable def c1_9 : AC := .cond (.t 54) c1_8 .skip
noncomputable def c1_10 : List It := [.op (some 107) (some (102, true)) (.un .not (.t 106)), .op (some 108) none (.pick (.t 102) (.t 107) (.c (.bool false))), .op (some 4) none (.mv (.t 108))]
noncomputable def c1_11 : List It := .op (some 101) none (.un .not (.t 100)) :: .op (some 102) none (.mv (.t 101)) :: .op (some 103) (some (102, true)) (.fieldAddr 3 (.t 2)) :: .op (some 104) (some (102, true)) (.load none (.t 103)) :: .op (some 105) (some (102, true)) (.mkFunc (.func n_syntax_shapeS2) [] [.t 3]) :: .call (some 106) (some (102, true)) (.c (.func (.func n_slices_ContainsFunc_api_Form) [] [])) [.t 104, .t 105] :: c1_10
noncomputable def c1_12 : AC := .seq (.its (.op (some 97) none (.fieldAddr 2 (.t 2)) :: .op (some 98) none (.load none (.t 97)) :: .op (some 99) none (.mkFunc (.func n_syntax_shapeS1) [] [.t 3]) :: .call (some 100) none (.c (.func (.func n_slices_ContainsFunc_api_Term) [] [])) [.t 98, .t 99] :: c1_11)) .ret
noncomputable def c1_13 : AC := .seq (.seq (.its ([.op (some 52) none (.fieldAddr 0 (.t 2)), .op (some 53) none (.load none (.t 52)), .op (some 54) none (.bin .eql (.t 53) (.c (.int .u8 16)))])) c1_9) c1_12
noncomputable def c1_14 : AC := .seq (.seq (.its (.op (some 24) none (.fieldAddr 3 (.t 6)) :: .op (some 25) none (.load none (.t 24)) :: .op (some 26) none (.load none (.t 3)) :: .op (some 27) none (.bin .gtr (.t 25) (.t 26)) :: .op (some 28) none (.mv (.t 27)) :: .op (some 29) (some (28, false)) (.fieldAddr 0 (.t 6)) :: .op (some 30) (some (28, false)) (.load none (.t 29)) :: .op (some 31) (some (28, false)) (.fieldAddr 1 (.t 2)) :: .op (some 32) (some (28, false)) (.load none (.t 31)) :: .call (some 33) (some (28, false)) (.t 30) [.t 32] :: c1_3)) c1_5) c1_13
noncomputable def c1_15 : AC := .seq (.its ([.op (some 20) none (.fieldAddr 0 (.t 2)), .op (some 21) none (.load none (.t 20)), .op (some 22) none (.idxA 17 4 (.t 5) (.t 21)), .op (some 23) none (.load (some 4) (.t 22)), .op (some 6) none (.alloc [.nilFunc, .int .i64 0, .int .i64 0, .int .i64 0]), .op none none (.store 4 (.t 6) (.t 23))])) c1_14
noncomputable def c1_16 : AC := .seq (.seq (.its ([.op (some 8) none (.fieldAddr 0 (.t 2)), .op (some 9) none (.load none (.t 8)), .op (some 10) none (.conv .i64 (.t 9)), .op (some 11) none (.bin .geq (.t 10) (.c (.int .i64 17))), .op (some 12) none (.mv (.t 11)), .op (some 13) (some (12, false)) (.fieldAddr 0 (.t 2)), .op (some 14) (some (12, false)) (.load none (.t 13)), .op (some 15) (some (12, false)) (.idxA 17 4 (.t 5) (.t 14)), .op (some 16) (some (12, false)) (.fieldAddr 0 (.t 15)), .op (some 17) (some (12, false)) (.load none (.t 16)), .op (some 18) (some (12, false)) (.eq (.nilOf .func) false (.t 17) (.c .nilFunc)), .op (some 19) none (.pick (.t 12) (.c (.bool true)) (.t 18))])) c1_2) c1_15
noncomputable def c1_17 : AC := .seq (.its (.call (some 7) none (.c (.func (.func n_syntax_rows) [] [])) [] :: c1_0)) c1_16
noncomputable def c1_18 : AC := .seq (.its ([.op (some 2) none (.box (.t 0)), .op (some 3) none (.box (.t 1)), .op (some 4) none (.mv (.c (.bool false)))])) c1_17
noncomputable def i_syntax_shape : AFunc := ⟨109, [(4, none)], c1_18⟩
theorem rf_syntax_shape : resF Go.Proofs.Tryz.prog n_syntax_shape = some i_syntax_shape := by kernel_rfl
noncomputable def i_describe_Model : AFunc := ⟨132, [(2, none), (3, none)], qa [qo 1 (.box (.t 0)), qk 2 (.slice none 0 (some 0) 0), qk 3 (qi 0)] (.seq (qa [qo 18 (.fieldAddr 0 (.t 1)), ql 19 18, qo 20 (.build [.str [], .int .u32 0, qu 0, qu 0, .slice none 0 (some 0) 0] [(2, 1, .t 19)]), qn 21 7 1, qc 22 47 [.t 20, .t 21], qo 23 (.un .not (.t 22))] (.cond (.t 23) (qa [qk 2 (.slice none 0 (some 0) 0), qk 3 (qi 2)] .ret) .skip)) (qa [qo 4 (.alloc [.slice none 0 (some 0) 0])] (qa [qo 24 (.mkFunc (.func 48) [] [.t 4]), qm 5 24] (qa [qo 25 (.fieldAddr 1 (.t 1)), ql 26 25, qc 27 35 [.t 26], qm 6 27] (.seq (qa [qo 28 (.fieldAddr 0 (.t 1)), ql 29 28] (.block 0 (qa [qb 31 .eql (.t 29) (.c (qu 2)), qm 30 31] (.cond (.t 30) (.its [qm 32 5, qm 33 6, qo 34 (.buildSlice 1 2 [.str [], .str []] [(0, 1, .t 33), (1, 1, qy [101, 108, 101, 109, 101, 110, 116, 115])]), .call (some 35) none (.t 32) [.t 34]]) (.seq (qa [qb 37 .eql (.t 29) (.c (qu 3)), qm 36 37] (.cond (.t 36) .skip (.its [qb 38 .eql (.t 29) (.c (qu 4)), qm 36 38]))) (.cond (.t 36) (.its [qm 39 5, qm 40 6, qo 41 (.buildSlice 1 2 [.str [], .str []] [(0, 1, .t 40), (1, 1, qy [119, 111, 114, 108, 100, 115])]), .call (some 42) none (.t 39) [.t 41]]) (qa [qb 44 .eql (.t 29) (.c (qu 5)), qm 43 44] (.cond (.t 43) (.its [qm 45 5, qm 46 6, qo 47 (.fieldAddr 3 (.t 1)), ql 48 47, qc 49 35 [.t 48], qo 50 (.buildSlice 1 3 [.str [], .str [], .str []] [(0, 1, .t 46), (1, 1, qy [116, 105, 109, 101, 115, 32, 116, 104, 101, 110, 32, 97, 103, 97, 105, 110, 32, 102, 114, 111, 109]), (2, 1, .t 49)]), .call (some 51) none (.t 45) [.t 50]]) .skip)))))))) (.seq (qa [qo 52 (.fieldAddr 4 (.t 1)), ql 53 52, qo 54 (.len .slice (.t 53)), qk 55 (qi 0)] (.block 1 (.loop (qa [qv 56 .lss 55 54] (.seq (.cond (.t 56) .skip (.exit 1)) (.seq (.block 2 (qa [qo 57 (.idxS 3 (.t 53) (.t 55)), qn 58 3 57, qo 8 (.alloc [.str [], qi 0, qi 0]), qs 3 8 58] (.its [qm 59 5, qn 60 7 1, qn 61 3 8, qc 62 49 [.t 60, .t 61], qo 63 (.buildSlice 1 1 [.str []] [(0, 1, .t 62)]), .call (some 64) none (.t 59) [.t 63]]))) (.its [qb 65 .add (.t 55) (qx 1), qm 55 65]))))))) (.seq (qa [qo 66 (.fieldAddr 5 (.t 1)), ql 67 66, qo 68 (.len .slice (.t 67)), qk 69 (qi 0)] (.block 3 (.loop (qa [qv 70 .lss 69 68] (.seq (.cond (.t 70) .skip (.exit 3)) (.seq (.block 4 (qa [qo 71 (.idxS 3 (.t 67) (.t 69)), qn 72 3 71, qo 10 (.alloc [.str [], qi 0, .slice none 0 (some 0) 0]), qs 3 10 72] (qa [qo 73 (.fieldAddr 2 (.t 10)), ql 74 73, qo 75 (.len .slice (.t 74)), qk 76 (qi 0)] (.block 5 (.loop (qa [qv 77 .lss 76 75] (.seq (.cond (.t 77) .skip (.exit 5)) (.seq (.block 6 (qa [qm 78 76, qo 79 (.idxS 1 (.t 74) (.t 76)), ql 80 79, qm 11 78, qm 12 80] (qa [qo 81 (.fieldAddr 0 (.t 10)), ql 82 81, qm 13 82] (.seq (qa [qo 83 (.fieldAddr 1 (.t 10)), ql 84 83, qb 85 .eql (.t 84) (qx 1)] (.cond (.t 85) (.its [qm 86 13, qm 87 11, qc 88 35 [.t 87], qo 89 (.buildSlice 1 3 [.str [], .str [], .str []] [(0, 1, .t 86), (1, 1, qy [111, 102]), (2, 1, .t 88)]), qc 90 31 [.t 89], qm 13 90]) .skip)) (.its [qm 91 5, qm 92 13, qm 93 12, qc 94 35 [.t 93], qo 95 (.buildSlice 1 3 [.str [], .str [], .str []] [(0, 1, .t 92), (1, 1, qy [105, 115]), (2, 1, .t 94)]), .call (some 96) none (.t 91) [.t 95]]))))) (.its [qb 97 .add (.t 76) (qx 1), qm 76 97]))))))))) (.its [qb 98 .add (.t 69) (qx 1), qm 69 98]))))))) (.seq (qa [qo 99 (.fieldAddr 6 (.t 1)), ql 100 99, qo 101 (.len .slice (.t 100)), qk 102 (qi 0)] (.block 7 (.loop (qa [qv 103 .lss 102 101] (.seq (.cond (.t 103) .skip (.exit 7)) (.seq (.block 8 (qa [qo 104 (.idxS 2 (.t 100) (.t 102)), qn 105 2 104, qo 15 (.alloc [.str [], qi 0]), qs 2 15 105] (.its [qm 106 5, qo 107 (.fieldAddr 0 (.t 15)), ql 108 107, qo 109 (.fieldAddr 1 (.t 15)), ql 110 109, qc 111 35 [.t 110], .again 108 none (.load none (.t 107)), qo 112 (.buildSlice 1 3 [.str [], .str [], .str []] [(0, 1, .t 108), (1, 1, qy [105, 115]), (2, 1, .t 111)]), .call (some 113) none (.t 106) [.t 112]]))) (.its [qb 114 .add (.t 102) (qx 1), qm 102 114]))))))) (.seq (qa [qo 115 (.fieldAddr 2 (.t 1)), ql 116 115, qo 117 (.len .slice (.t 116)), qk 118 (qi 0)] (.block 9 (.loop (qa [qv 119 .lss 118 117] (.seq (.cond (.t 119) .skip (.exit 9)) (.seq (.block 10 (qa [qm 120 118, qo 121 (.idxS 1 (.t 116) (.t 118)), ql 122 121, qm 16 120, qm 17 122] (.its [qm 123 5, qm 124 16, qc 125 35 [.t 124], qm 126 17, qc 127 50 [.t 126], qo 128 (.buildSlice 1 3 [.str [], .str [], .str []] [(0, 1, .t 125), (1, 1, qy [115, 101, 101, 115]), (2, 1, .t 127)]), .call (some 129) none (.t 123) [.t 128]]))) (.its [qb 130 .add (.t 118) (qx 1), qm 118 130]))))))) (qa [ql 131 4, qm 2 131, qk 3 (qi 0)] .ret))))))))))⟩
theorem rf_describe_Model : resF Go.Proofs.Tryz.prog 23 = some i_describe_Model := by kernel_rfl
noncomputable def c2_0 : List It := [.op (some 12) none (.bin .add (.t 11) (.c (.int .i64 1))), .op (some 4) none (.mv (.t 12))]
noncomputable def c2_1 : AC := .seq (.its (.op (some 10) none (.mv (.t 0)) :: .call (some 11) none (.c (.func (.func n_utf8_RuneCountInString) [] [])) [.t 10] :: c2_0)) .ret
noncomputable def c2_2 : AC := .cond (.t 9) c2_1 .skip
noncomputable def c2_3 : List It := [.op (some 4) none (.mv (.t 19))]
noncomputable def c2_4 : AC := .seq (.its (.op (some 16) none (.mv (.t 0)) :: .op (some 17) none (.mv (.t 1)) :: .op (some 18) none (.idxStr (.t 17) (.c (.int .i64 0))) :: .call (some 19) none (.c (.func (.func 145) [] [])) [.t 16, .t 18] :: c2_3)) .ret
noncomputable def c2_5 : AC := .cond (.t 15) c2_4 .skip
noncomputable def c2_6 : List It := [.op (some 6) none (.mv (.t 22))]
noncomputable def c2_7 : AC := .seq (.its ([.op (some 25) none (.mv (.t 5)), .op (some 4) none (.mv (.t 25))])) .ret
noncomputable def c2_8 : AC := .cond (.t 24) c2_7 .skip
noncomputable def c2_9 : AC := .its ([.op (some 28) none (.mv (.t 0)), .op (some 29) none (.mv (.t 6)), .op (some 30) none (.mv (.t 1)), .op (some 31) none (.len .str (.t 30)), .op (some 32) none (.bin .add (.t 29) (.t 31)), .op (some 33) none (.sliceStr (.t 28) (some (.t 32)) none), .op (some 0) none (.mv (.t 33))])
noncomputable def c2_10 : AC := .seq (.its ([.op (some 26) none (.mv (.t 5)), .op (some 27) none (.bin .add (.t 26) (.c (.int .i64 1))), .op (some 5) none (.mv (.t 27))])) c2_9
noncomputable def c2_11 : AC := .seq (.seq (.its ([.op (some 23) none (.mv (.t 6)), .op (some 24) none (.bin .eql (.t 23) (.c (.int .i64 (-1))))])) c2_8) c2_10
noncomputable def c2_12 : AC := .seq (.its (.op (some 20) none (.mv (.t 0)) :: .op (some 21) none (.mv (.t 1)) :: .call (some 22) none (.c (.func (.func n_strings_Index) [] [])) [.t 20, .t 21] :: c2_6)) c2_11
noncomputable def c2_13 : AC := .block 1 c2_12
noncomputable def c2_14 : AC := .loop c2_13
noncomputable def c2_15 : AC := .block 0 c2_14
noncomputable def c2_16 : AC := .seq (.its ([.op (some 5) none (.mv (.c (.int .i64 0)))])) c2_15
noncomputable def c2_17 : AC := .seq (.seq (.its ([.op (some 13) none (.mv (.t 1)), .op (some 14) none (.len .str (.t 13)), .op (some 15) none (.bin .eql (.t 14) (.c (.int .i64 1)))])) c2_5) c2_16
noncomputable def c2_18 : AC := .seq (.seq (.its ([.op (some 7) none (.mv (.t 1)), .op (some 8) none (.len .str (.t 7)), .op (some 9) none (.bin .eql (.t 8) (.c (.int .i64 0)))])) c2_2) c2_17
noncomputable def c2_19 : AC := .seq (.its ([.op (some 4) none (.mv (.c (.int .i64 0)))])) c2_18
noncomputable def i_strings_Count : AFunc := ⟨34, [(4, none)], c2_19⟩
theorem rf_strings_Count : resF Go.Proofs.Tryz.prog n_strings_Count = some i_strings_Count := by kernel_rfl
noncomputable def c3_0 : AC := .its ([.op (some 2) none (.mv (.c (.int .i64 32)))])
noncomputable def c3_1 : AC := .seq (.its ([.op (some 5) none (.mv (.t 0)), .op (some 6) none (.bin .shr (.t 5) (.c (.int .u64 32))), .op (some 0) none (.mv (.t 6))])) c3_0
noncomputable def c3_2 : AC := .cond (.t 4) c3_1 .skip
noncomputable def c3_3 : AC := .its ([.op (some 11) none (.mv (.t 2)), .op (some 12) none (.bin .add (.t 11) (.c (.int .i64 16))), .op (some 2) none (.mv (.t 12))])
noncomputable def c3_4 : AC := .seq (.its ([.op (some 9) none (.mv (.t 0)), .op (some 10) none (.bin .shr (.t 9) (.c (.int .u64 16))), .op (some 0) none (.mv (.t 10))])) c3_3
noncomputable def c3_5 : AC := .cond (.t 8) c3_4 .skip
noncomputable def c3_6 : AC := .its ([.op (some 17) none (.mv (.t 2)), .op (some 18) none (.bin .add (.t 17) (.c (.int .i64 8))), .op (some 2) none (.mv (.t 18))])
noncomputable def c3_7 : AC := .seq (.its ([.op (some 15) none (.mv (.t 0)), .op (some 16) none (.bin .shr (.t 15) (.c (.int .u64 8))), .op (some 0) none (.mv (.t 16))])) c3_6
noncomputable def c3_8 : AC := .cond (.t 14) c3_7 .skip
noncomputable def c3_9 : AC := .seq (.its ([.op (some 19) none (.mv (.t 2)), .op (some 20) none (.mv (.t 0)), .op (some 21) none (.conv .u8 (.t 20)), .op (some 22) none (.idxStr (.c (.str [0, 1, 2, 2, 3, 3, 3, 3, 4, 4, 4, 4, 4, 4, 4, 4, 5, 5, 5, 5, 5, 5, 5, 5, 5, 5, 5, 5, 5, 5, 5, 5, 6, 6, 6, 6, 6, 6, 6, 6, 6, 6, 6, 6, 6, 6, 6, 6, 6, 6, 6, 6, 6, 6, 6, 6, 6, 6, 6, 6, 6, 6, 6, 6, 7, 7, 7, 7, 7, 7, 7, 7, 7, 7, 7, 7, 7, 7, 7, 7, 7, 7, 7, 7, 7, 7, 7, 7, 7, 7, 7, 7, 7, 7, 7, 7, 7, 7, 7, 7, 7, 7, 7, 7, 7, 7, 7, 7, 7, 7, 7, 7, 7, 7, 7, 7, 7, 7, 7, 7, 7, 7, 7, 7, 7, 7, 7, 7, 8, 8, 8, 8, 8, 8, 8, 8, 8, 8, 8, 8, 8, 8, 8, 8, 8, 8, 8, 8, 8, 8, 8, 8, 8, 8, 8, 8, 8, 8, 8, 8, 8, 8, 8, 8, 8, 8, 8, 8, 8, 8, 8, 8, 8, 8, 8, 8, 8, 8, 8, 8, 8, 8, 8, 8, 8, 8, 8, 8, 8, 8, 8, 8, 8, 8, 8, 8, 8, 8, 8, 8, 8, 8, 8, 8, 8, 8, 8, 8, 8, 8, 8, 8, 8, 8, 8, 8, 8, 8, 8, 8, 8, 8, 8, 8, 8, 8, 8, 8, 8, 8, 8, 8, 8, 8, 8, 8, 8, 8, 8, 8, 8, 8, 8, 8, 8, 8, 8, 8, 8, 8, 8, 8, 8, 8, 8, 8])) (.t 21)), .op (some 23) none (.conv .i64 (.t 22)), .op (some 24) none (.bin .add (.t 19) (.t 23)), .op (some 2) none (.mv (.t 24))])) .ret
noncomputable def c3_10 : AC := .seq (.seq (.its ([.op (some 13) none (.mv (.t 0)), .op (some 14) none (.bin .geq (.t 13) (.c (.int .u64 256)))])) c3_8) c3_9
noncomputable def c3_11 : AC := .seq (.seq (.its ([.op (some 7) none (.mv (.t 0)), .op (some 8) none (.bin .geq (.t 7) (.c (.int .u64 65536)))])) c3_5) c3_10
noncomputable def c3_12 : AC := .seq (.seq (.its ([.op (some 3) none (.mv (.t 0)), .op (some 4) none (.bin .geq (.t 3) (.c (.int .u64 4294967296)))])) c3_2) c3_11
noncomputable def c3_13 : AC := .seq (.its ([.op (some 2) none (.mv (.c (.int .i64 0)))])) c3_12
noncomputable def i_bits_Len64 : AFunc := ⟨25, [(2, none)], c3_13⟩
theorem rf_bits_Len64 : resF Go.Proofs.Tryz.prog n_bits_Len64 = some i_bits_Len64 := by kernel_rfl
noncomputable def c4_0 : List It := [.op (some 5) none (.mv (.t 8))]
noncomputable def c4_1 : List It := [.op (some 6) none (.mv (.t 10))]
noncomputable def c4_2 : AC := .seq (.its ([.op (some 4) none (.mv (.c (.int .i64 0)))])) .ret
noncomputable def c4_3 : AC := .cond (.t 12) c4_2 .skip
noncomputable def c4_4 : AC := .seq (.its ([.op (some 4) none (.mv (.c (.int .i64 (-1))))])) .ret
noncomputable def c4_5 : AC := .seq (.seq (.its ([.op (some 12) none (.mv (.t 6))])) c4_3) c4_4
noncomputable def c4_6 : AC := .cond (.t 11) c4_5 .skip
noncomputable def c4_7 : AC := .seq (.its ([.op (some 4) none (.mv (.c (.int .i64 1)))])) .ret
noncomputable def c4_8 : AC := .cond (.t 13) c4_7 .skip
noncomputable def c4_9 : AC := .seq (.its ([.op (some 4) none (.mv (.c (.int .i64 (-1))))])) .ret
noncomputable def c4_10 : AC := .cond (.t 16) c4_9 .skip
noncomputable def c4_11 : AC := .seq (.its ([.op (some 4) none (.mv (.c (.int .i64 1)))])) .ret
noncomputable def c4_12 : AC := .cond (.t 19) c4_11 .skip
noncomputable def c4_13 : AC := .seq (.its ([.op (some 4) none (.mv (.c (.int .i64 0)))])) .ret
noncomputable def c4_14 : AC := .seq (.seq (.its ([.op (some 17) none (.mv (.t 0)), .op (some 18) none (.mv (.t 1)), .op (some 19) none (.bin .gtr (.t 17) (.t 18))])) c4_12) c4_13
noncomputable def c4_15 : AC := .seq (.seq (.its ([.op (some 14) none (.mv (.t 0)), .op (some 15) none (.mv (.t 1)), .op (some 16) none (.bin .lss (.t 14) (.t 15))])) c4_10) c4_14
noncomputable def c4_16 : AC := .seq (.seq (.its ([.op (some 13) none (.mv (.t 6))])) c4_8) c4_15
noncomputable def c4_17 : AC := .seq (.seq (.its ([.op (some 11) none (.mv (.t 5))])) c4_6) c4_16
noncomputable def c4_18 : AC := .seq (.its (.op (some 9) none (.mv (.t 1)) :: .call (some 10) none (.c (.func (.func n_cmp_isNaN_string) [] [])) [.t 9] :: c4_1)) c4_17
noncomputable def c4_19 : AC := .seq (.its (.op (some 7) none (.mv (.t 0)) :: .call (some 8) none (.c (.func (.func n_cmp_isNaN_string) [] [])) [.t 7] :: c4_0)) c4_18
noncomputable def c4_20 : AC := .seq (.its ([.op (some 4) none (.mv (.c (.int .i64 0)))])) c4_19
noncomputable def i_cmp_Compare_string : AFunc := ⟨20, [(4, none)], c4_20⟩
theorem rf_cmp_Compare_string : resF Go.Proofs.Tryz.prog n_cmp_Compare_string = some i_cmp_Compare_string := by kernel_rfl
noncomputable def c5_0 : List It := [.op (some 15) none (.un .not (.t 14))]
noncomputable def c5_1 : AC := .cond (.t 15) .ret .skip
noncomputable def c5_2 : AC := .its ([.op (some 5) none (.alloc [.bool false, .str [], .slice none 0 (some 0) 0]), .op none none (.store 3 (.t 5) (.t 19))])
noncomputable def c5_3 : List It := [.op (some 23) none (.un .not (.t 22))]
noncomputable def c5_4 : AC := .cond (.t 23) .ret .skip
noncomputable def c5_5 : AC := .seq (.its (.op (some 20) none (.load none (.t 2)) :: .op (some 21) none (.load (some 3) (.t 5)) :: .call (some 22) none (.t 20) [.t 21] :: c5_3)) c5_4
noncomputable def c5_6 : AC := .block 3 c5_5
noncomputable def c5_7 : AC := .rangef (.t 18) [19] c5_2 c5_6
noncomputable def c5_8 : AC := .block 2 c5_7
noncomputable def c5_9 : AC := .seq (.its ([.op (some 16) none (.fieldAddr 2 (.t 4)), .op (some 17) none (.load none (.t 16)), .call (some 18) none (.c (.func (.func n_syntax_terms) [] [])) [.t 17]])) c5_8
noncomputable def c5_10 : AC := .seq (.seq (.its (.op (some 12) none (.load none (.t 2)) :: .op (some 13) none (.load (some 3) (.t 4)) :: .call (some 14) none (.t 12) [.t 13] :: c5_0)) c5_1) c5_9
noncomputable def c5_11 : AC := .seq (.its ([.op (some 10) none (.idxS 3 (.t 6) (.t 8)), .op (some 11) none (.load (some 3) (.t 10)), .op (some 4) none (.alloc [.bool false, .str [], .slice none 0 (some 0) 0]), .op none none (.store 3 (.t 4) (.t 11))])) c5_10
noncomputable def c5_12 : AC := .its ([.op (some 24) none (.bin .add (.t 8) (.c (.int .i64 1))), .op (some 8) none (.mv (.t 24))])
noncomputable def c5_13 : AC := .seq (.block 1 c5_11) c5_12
noncomputable def c5_14 : AC := .seq (.cond (.t 9) .skip (.exit 0)) c5_13
noncomputable def c5_15 : AC := .seq (.its ([.op (some 9) none (.bin .lss (.t 8) (.t 7))])) c5_14
noncomputable def c5_16 : AC := .loop c5_15
noncomputable def c5_17 : AC := .block 0 c5_16
noncomputable def c5_18 : AC := .seq (.its ([.op (some 6) none (.load none (.t 1)), .op (some 7) none (.len .slice (.t 6)), .op (some 8) none (.mv (.c (.int .i64 0)))])) c5_17
noncomputable def c5_19 : AC := .seq (.its ([.op (some 2) none (.box (.t 0))])) c5_18
noncomputable def i_syntax_termsS1 : AFunc := ⟨25, [], c5_19⟩
theorem rf_syntax_termsS1 : resF Go.Proofs.Tryz.prog n_syntax_termsS1 = some i_syntax_termsS1 := by kernel_rfl
noncomputable def c6_0 : AC := .seq (.its ([.op (some 4) none (.mv (.c (.bool false)))])) .ret
noncomputable def c6_1 : AC := .cond (.t 10) c6_0 .skip
noncomputable def c6_2 : AC := .cond (.t 14) .skip (.exit 0)
noncomputable def c6_3 : List It := [.op (some 26) none (.un .not (.t 25))]
noncomputable def c6_4 : AC := .seq (.its ([.op (some 4) none (.mv (.c (.bool false)))])) .ret
noncomputable def c6_5 : AC := .cond (.t 26) c6_4 .skip
noncomputable def c6_6 : AC := .seq (.its (.op (some 17) none (.mv (.t 0)) :: .op (some 18) none (.mv (.t 5)) :: .op (some 19) none (.idxS 4 (.t 17) (.t 18)) :: .op (some 20) none (.load (some 4) (.t 19)) :: .op (some 21) none (.mv (.t 1)) :: .op (some 22) none (.mv (.t 5)) :: .op (some 23) none (.idxS 4 (.t 21) (.t 22)) :: .op (some 24) none (.load (some 4) (.t 23)) :: .call (some 25) none (.c (.func (.func n_kit_SameForm) [] [])) [.t 20, .t 24] :: c6_3)) c6_5
noncomputable def c6_7 : AC := .its ([.op (some 15) none (.mv (.t 5)), .op (some 16) none (.bin .add (.t 15) (.c (.int .i64 1))), .op (some 5) none (.mv (.t 16))])
noncomputable def c6_8 : AC := .seq (.block 1 c6_6) c6_7
noncomputable def c6_9 : AC := .seq (.seq (.its ([.op (some 11) none (.mv (.t 5)), .op (some 12) none (.mv (.t 0)), .op (some 13) none (.len .slice (.t 12)), .op (some 14) none (.bin .lss (.t 11) (.t 13))])) c6_2) c6_8
noncomputable def c6_10 : AC := .loop c6_9
noncomputable def c6_11 : AC := .block 0 c6_10
noncomputable def c6_12 : AC := .seq (.its ([.op (some 4) none (.mv (.c (.bool true)))])) .ret
noncomputable def c6_13 : AC := .seq (.seq (.its ([.op (some 5) none (.mv (.c (.int .i64 0)))])) c6_11) c6_12
noncomputable def c6_14 : AC := .seq (.seq (.its ([.op (some 6) none (.mv (.t 0)), .op (some 7) none (.len .slice (.t 6)), .op (some 8) none (.mv (.t 1)), .op (some 9) none (.len .slice (.t 8)), .op (some 10) none (.bin .neq (.t 7) (.t 9))])) c6_1) c6_13
noncomputable def c6_15 : AC := .seq (.its ([.op (some 4) none (.mv (.c (.bool false)))])) c6_14
noncomputable def i_kit_SameForms : AFunc := ⟨27, [(4, none)], c6_15⟩
theorem rf_kit_SameForms : resF Go.Proofs.Tryz.prog n_kit_SameForms = some i_kit_SameForms := by kernel_rfl
noncomputable def c7_0 : AC := .seq (.its ([.op (some 4) none (.mv (.c (.bool false)))])) .ret
noncomputable def c7_1 : AC := .cond (.t 10) c7_0 .skip
noncomputable def c7_2 : AC := .cond (.t 14) .skip (.exit 0)
noncomputable def c7_3 : List It := [.op (some 26) none (.un .not (.t 25))]
noncomputable def c7_4 : AC := .seq (.its ([.op (some 4) none (.mv (.c (.bool false)))])) .ret
noncomputable def c7_5 : AC := .cond (.t 26) c7_4 .skip
noncomputable def c7_6 : AC := .seq (.its (.op (some 17) none (.mv (.t 0)) :: .op (some 18) none (.mv (.t 5)) :: .op (some 19) none (.idxS 1 (.t 17) (.t 18)) :: .op (some 20) none (.load none (.t 19)) :: .op (some 21) none (.mv (.t 1)) :: .op (some 22) none (.mv (.t 5)) :: .op (some 23) none (.idxS 1 (.t 21) (.t 22)) :: .op (some 24) none (.load none (.t 23)) :: .call (some 25) none (.c (.func (.func n_kit_SameInts) [] [])) [.t 20, .t 24] :: c7_3)) c7_5
noncomputable def c7_7 : AC := .its ([.op (some 15) none (.mv (.t 5)), .op (some 16) none (.bin .add (.t 15) (.c (.int .i64 1))), .op (some 5) none (.mv (.t 16))])
noncomputable def c7_8 : AC := .seq (.block 1 c7_6) c7_7
noncomputable def c7_9 : AC := .seq (.seq (.its ([.op (some 11) none (.mv (.t 5)), .op (some 12) none (.mv (.t 0)), .op (some 13) none (.len .slice (.t 12)), .op (some 14) none (.bin .lss (.t 11) (.t 13))])) c7_2) c7_8
noncomputable def c7_10 : AC := .loop c7_9
noncomputable def c7_11 : AC := .block 0 c7_10
noncomputable def c7_12 : AC := .seq (.its ([.op (some 4) none (.mv (.c (.bool true)))])) .ret
noncomputable def c7_13 : AC := .seq (.seq (.its ([.op (some 5) none (.mv (.c (.int .i64 0)))])) c7_11) c7_12
noncomputable def c7_14 : AC := .seq (.seq (.its ([.op (some 6) none (.mv (.t 0)), .op (some 7) none (.len .slice (.t 6)), .op (some 8) none (.mv (.t 1)), .op (some 9) none (.len .slice (.t 8)), .op (some 10) none (.bin .neq (.t 7) (.t 9))])) c7_1) c7_13
noncomputable def c7_15 : AC := .seq (.its ([.op (some 4) none (.mv (.c (.bool false)))])) c7_14
noncomputable def i_kit_SameMarks : AFunc := ⟨27, [(4, none)], c7_15⟩
theorem rf_kit_SameMarks : resF Go.Proofs.Tryz.prog n_kit_SameMarks = some i_kit_SameMarks := by kernel_rfl
noncomputable def c8_0 : AC := .seq (.its ([.op (some 4) none (.mv (.c (.bool false)))])) .ret
noncomputable def c8_1 : AC := .cond (.t 10) c8_0 .skip
noncomputable def c8_2 : AC := .cond (.t 14) .skip (.exit 0)
noncomputable def c8_3 : AC := .seq (.its ([.op (some 4) none (.mv (.c (.bool false)))])) .ret
noncomputable def c8_4 : AC := .cond (.t 25) c8_3 .skip
noncomputable def c8_5 : AC := .seq (.its ([.op (some 17) none (.mv (.t 0)), .op (some 18) none (.mv (.t 5)), .op (some 19) none (.idxS 1 (.t 17) (.t 18)), .op (some 20) none (.load none (.t 19)), .op (some 21) none (.mv (.t 1)), .op (some 22) none (.mv (.t 5)), .op (some 23) none (.idxS 1 (.t 21) (.t 22)), .op (some 24) none (.load none (.t 23)), .op (some 25) none (.bin .neq (.t 20) (.t 24))])) c8_4
noncomputable def c8_6 : AC := .its ([.op (some 15) none (.mv (.t 5)), .op (some 16) none (.bin .add (.t 15) (.c (.int .i64 1))), .op (some 5) none (.mv (.t 16))])
noncomputable def c8_7 : AC := .seq (.block 1 c8_5) c8_6
noncomputable def c8_8 : AC := .seq (.seq (.its ([.op (some 11) none (.mv (.t 5)), .op (some 12) none (.mv (.t 0)), .op (some 13) none (.len .slice (.t 12)), .op (some 14) none (.bin .lss (.t 11) (.t 13))])) c8_2) c8_7
noncomputable def c8_9 : AC := .loop c8_8
noncomputable def c8_10 : AC := .block 0 c8_9
noncomputable def c8_11 : AC := .seq (.its ([.op (some 4) none (.mv (.c (.bool true)))])) .ret
noncomputable def c8_12 : AC := .seq (.seq (.its ([.op (some 5) none (.mv (.c (.int .i64 0)))])) c8_10) c8_11
noncomputable def c8_13 : AC := .seq (.seq (.its ([.op (some 6) none (.mv (.t 0)), .op (some 7) none (.len .slice (.t 6)), .op (some 8) none (.mv (.t 1)), .op (some 9) none (.len .slice (.t 8)), .op (some 10) none (.bin .neq (.t 7) (.t 9))])) c8_1) c8_12
noncomputable def c8_14 : AC := .seq (.its ([.op (some 4) none (.mv (.c (.bool false)))])) c8_13
noncomputable def i_kit_SameInts : AFunc := ⟨26, [(4, none)], c8_14⟩
theorem rf_kit_SameInts : resF Go.Proofs.Tryz.prog n_kit_SameInts = some i_kit_SameInts := by kernel_rfl
noncomputable def c9_0 : AC := .its ([.op (some 7) none (.mkIface 9 (.c (.str [99, 97, 110, 110, 111, 116, 32, 98, 101, 32, 110, 101, 103, 97, 116, 105, 118, 101]))), .op none none .fail])
noncomputable def c9_1 : AC := .cond (.t 6) c9_0 .skip
noncomputable def c9_2 : AC := .its ([.op (some 17) none (.mv (.t 0)), .op (some 18) none (.mv (.t 0)), .op (some 19) none (.cap (.t 18)), .op (some 20) none (.sliceS 4 (.t 17) none (some (.t 19)) none), .op (some 21) none (.mv (.t 1)), .op (some 22) none (.appendZ 4 72 [.int .u8 0, .str [], .slice none 0 (some 0) 0, .slice none 0 (some 0) 0] (.t 20) (.t 21)), .op (some 23) none (.mv (.t 0)), .op (some 24) none (.len .slice (.t 23)), .op (some 25) none (.sliceS 4 (.t 22) none (some (.t 24)) none), .op (some 0) none (.mv (.t 25))])
noncomputable def c9_3 : AC := .cond (.t 16) c9_2 .skip
noncomputable def c9_4 : AC := .seq (.its ([.op (some 15) none (.mv (.t 1)), .op (some 16) none (.bin .gtr (.t 15) (.c (.int .i64 0)))])) c9_3
noncomputable def c9_5 : AC := .seq (.its ([.op (some 26) none (.mv (.t 0)), .op (some 4) none (.mv (.t 26))])) .ret
noncomputable def c9_6 : AC := .seq (.seq (.its ([.op (some 8) none (.mv (.t 1)), .op (some 9) none (.mv (.t 0)), .op (some 10) none (.cap (.t 9)), .op (some 11) none (.mv (.t 0)), .op (some 12) none (.len .slice (.t 11)), .op (some 13) none (.bin .sub (.t 10) (.t 12)), .op (some 14) none (.bin .sub (.t 8) (.t 13)), .op (some 1) none (.mv (.t 14))])) c9_4) c9_5
noncomputable def c9_7 : AC := .seq (.seq (.its ([.op (some 5) none (.mv (.t 1)), .op (some 6) none (.bin .lss (.t 5) (.c (.int .i64 0)))])) c9_1) c9_6
noncomputable def c9_8 : AC := .seq (.its ([.op (some 4) none (.mv (.c (.slice none 0 (some 0) 0)))])) c9_7
noncomputable def i_slices_Grow_api_Form : AFunc := ⟨27, [(4, none)], c9_8⟩
theorem rf_slices_Grow_api_Form : resF Go.Proofs.Tryz.prog n_slices_Grow_api_Form = some i_slices_Grow_api_Form := by kernel_rfl
noncomputable def c10_0 : AC := .seq (.its ([.op (some 17) none (.mv (.t 5)), .op (some 4) none (.mv (.t 17))])) .ret
noncomputable def c10_1 : AC := .cond (.t 16) c10_0 .skip
noncomputable def c10_2 : AC := .seq (.its ([.op (some 11) none (.mv (.t 1)), .op (some 12) none (.mv (.t 0)), .op (some 13) none (.mv (.t 5)), .op (some 14) none (.idxS 1 (.t 12) (.t 13)), .op (some 15) none (.load none (.t 14)), .call (some 16) none (.t 11) [.t 15]])) c10_1
noncomputable def c10_3 : AC := .seq (.its ([.op (some 10) none (.mv (.t 8)), .op (some 5) none (.mv (.t 10))])) c10_2
noncomputable def c10_4 : AC := .its ([.op (some 18) none (.bin .add (.t 8) (.c (.int .i64 1))), .op (some 8) none (.mv (.t 18))])
noncomputable def c10_5 : AC := .seq (.block 1 c10_3) c10_4
noncomputable def c10_6 : AC := .seq (.cond (.t 9) .skip (.exit 0)) c10_5
noncomputable def c10_7 : AC := .seq (.its ([.op (some 9) none (.bin .lss (.t 8) (.t 7))])) c10_6
noncomputable def c10_8 : AC := .loop c10_7
noncomputable def c10_9 : AC := .block 0 c10_8
noncomputable def c10_10 : AC := .seq (.its ([.op (some 4) none (.mv (.c (.int .i64 (-1))))])) .ret
noncomputable def c10_11 : AC := .seq (.seq (.its ([.op (some 6) none (.mv (.t 0)), .op (some 7) none (.len .slice (.t 6)), .op (some 8) none (.mv (.c (.int .i64 0)))])) c10_9) c10_10
noncomputable def c10_12 : AC := .seq (.its ([.op (some 4) none (.mv (.c (.int .i64 0)))])) c10_11
noncomputable def i_slices_IndexFunc_byte : AFunc := ⟨19, [(4, none)], c10_12⟩
theorem rf_slices_IndexFunc_byte : resF Go.Proofs.Tryz.prog n_slices_IndexFunc_byte = some i_slices_IndexFunc_byte := by kernel_rfl
noncomputable def c11_0 : List It := [.op (some 16) none (.bin .add (.c (.int .i64 1)) (.t 15)), .op (some 17) none (.max [.t 12, .t 16]), .op (some 3) none (.mv (.t 17))]
noncomputable def c11_1 : AC := .its (.op (some 12) none (.mv (.t 3)) :: .op (some 13) none (.fieldAddr 2 (.t 5)) :: .op (some 14) none (.load none (.t 13)) :: .call (some 15) none (.c (.func (.func n_syntax_high) [] [])) [.t 14] :: c11_0)
noncomputable def c11_2 : AC := .seq (.its ([.op (some 10) none (.idxS 3 (.t 6) (.t 8)), .op (some 11) none (.load (some 3) (.t 10)), .op (some 5) none (.alloc [.bool false, .str [], .slice none 0 (some 0) 0]), .op none none (.store 3 (.t 5) (.t 11))])) c11_1
noncomputable def c11_3 : AC := .its ([.op (some 18) none (.bin .add (.t 8) (.c (.int .i64 1))), .op (some 8) none (.mv (.t 18))])
noncomputable def c11_4 : AC := .seq (.block 1 c11_2) c11_3
noncomputable def c11_5 : AC := .seq (.cond (.t 9) .skip (.exit 0)) c11_4
noncomputable def c11_6 : AC := .seq (.its ([.op (some 9) none (.bin .lss (.t 8) (.t 7))])) c11_5
noncomputable def c11_7 : AC := .loop c11_6
noncomputable def c11_8 : AC := .block 0 c11_7
noncomputable def c11_9 : AC := .seq (.its ([.op (some 19) none (.mv (.t 3)), .op (some 2) none (.mv (.t 19))])) .ret
noncomputable def c11_10 : AC := .seq (.seq (.its ([.op (some 6) none (.mv (.t 0)), .op (some 7) none (.len .slice (.t 6)), .op (some 8) none (.mv (.c (.int .i64 0)))])) c11_8) c11_9
noncomputable def c11_11 : AC := .seq (.its ([.op (some 3) none (.mv (.c (.int .i64 0)))])) c11_10
noncomputable def c11_12 : AC := .seq (.its ([.op (some 2) none (.mv (.c (.int .i64 0)))])) c11_11
noncomputable def i_syntax_high : AFunc := ⟨20, [(2, none)], c11_12⟩
theorem rf_syntax_high : resF Go.Proofs.Tryz.prog n_syntax_high = some i_syntax_high := by kernel_rfl
noncomputable def c12_0 : List It := [.op (some 15) (some (11, true)) (.un .not (.t 14)), .op (some 16) none (.pick (.t 11) (.t 15) (.c (.bool false))), .op (some 17) none (.mv (.t 16)), .op (some 18) (some (17, true)) (.mv (.t 0)), .op (some 19) (some (17, true)) (.idxStr (.t 18) (.c (.int .i64 0))), .op (some 20) (some (17, true)) (.bin .lss (.t 19) (.c (.int .u8 48))), .op (some 21) (some (17, true)) (.mv (.t 20)), .op (some 22) (some (21, false)) (.mv (.t 0)), .op (some 23) (some (21, false)) (.idxStr (.t 22) (.c (.int .i64 0))), .op (some 24) (some (21, false)) (.bin .gtr (.t 23) (.c (.int .u8 57))), .op (some 25) (some (17, true)) (.pick (.t 21) (.c (.bool true)) (.t 24)), .op (some 26) none (.pick (.t 17) (.t 25) (.c (.bool false))), .op (some 2) none (.mv (.t 26))]
noncomputable def c12_1 : AC := .seq (.its (.op (some 4) none (.mv (.t 0)) :: .op (some 5) none (.bin .neq (.t 4) (.c (.str []))) :: .op (some 6) none (.mv (.t 5)) :: .op (some 7) (some (6, true)) (.mv (.t 0)) :: .op (some 8) (some (6, true)) (.len .str (.t 7)) :: .op (some 9) (some (6, true)) (.bin .leq (.t 8) (.c (.int .i64 16))) :: .op (some 10) none (.pick (.t 6) (.t 9) (.c (.bool false))) :: .op (some 11) none (.mv (.t 10)) :: .op (some 12) (some (11, true)) (.mv (.t 0)) :: .op (some 13) (some (11, true)) (.mv (.t 3)) :: .call (some 14) (some (11, true)) (.c (.func (.func n_strings_ContainsFunc) [] [])) [.t 12, .t 13] :: c12_0)) .ret
noncomputable def c12_2 : AC := .seq (.its ([.op (some 3) none (.mv (.c (.func (.func n_describe_nameS1) [] [])))])) c12_1
noncomputable def c12_3 : AC := .seq (.its ([.op (some 2) none (.mv (.c (.bool false)))])) c12_2
noncomputable def i_describe_name : AFunc := ⟨27, [(2, none)], c12_3⟩
theorem rf_describe_name : resF Go.Proofs.Tryz.prog n_describe_name = some i_describe_name := by kernel_rfl
noncomputable def c13_0 : List It := [.op (some 6) none (.mv (.t 16))]
noncomputable def c13_1 : AC := .seq (.its (.op (some 12) none (.mv (.t 0)) :: .op (some 13) none (.len .slice (.t 12)) :: .op (some 14) none (.mv (.t 1)) :: .op (some 15) none (.len .slice (.t 14)) :: .call (some 16) none (.c (.func (.func n_cmp_Compare_int) [] [])) [.t 13, .t 15] :: c13_0)) .ret
noncomputable def c13_2 : AC := .cond (.t 11) c13_1 .skip
noncomputable def c13_3 : List It := [.op (some 6) none (.mv (.t 20))]
noncomputable def c13_4 : AC := .seq (.its (.op (some 17) none (.mv (.t 0)) :: .op (some 18) none (.mv (.t 1)) :: .op (some 19) none (.mv (.t 2)) :: .call (some 20) none (.c (.func (.func n_slices_CompareFunc_api_Form_api_Form) [] [])) [.t 17, .t 18, .t 19] :: c13_3)) .ret
noncomputable def c13_5 : AC := .seq (.seq (.its ([.op (some 7) none (.mv (.t 0)), .op (some 8) none (.len .slice (.t 7)), .op (some 9) none (.mv (.t 1)), .op (some 10) none (.len .slice (.t 9)), .op (some 11) none (.bin .neq (.t 8) (.t 10))])) c13_2) c13_4
noncomputable def c13_6 : AC := .seq (.its ([.op (some 6) none (.mv (.c (.int .i64 0)))])) c13_5
noncomputable def i_syntax_lists_api_Form : AFunc := ⟨21, [(6, none)], c13_6⟩
theorem rf_syntax_lists_api_Form : resF Go.Proofs.Tryz.prog n_syntax_lists_api_Form = some i_syntax_lists_api_Form := by kernel_rfl
noncomputable def i_istrconv_small : AFunc := ⟨15, [(2, none)], qa [qk 2 (.str [])] (.seq (qa [qm 3 0, qb 4 .lss (.t 3) (qx 10)] (.cond (.t 4) (qa [qm 5 0, qm 6 0, qb 7 .add (.t 6) (qx 1), qo 8 (.sliceStr (qy [48, 49, 50, 51, 52, 53, 54, 55, 56, 57, 97, 98, 99, 100, 101, 102, 103, 104, 105, 106, 107, 108, 109, 110, 111, 112, 113, 114, 115, 116, 117, 118, 119, 120, 121, 122]) (some (.t 5)) (some (.t 7))), qm 2 8] .ret) .skip)) (qa [qm 9 0, qb 10 .mul (.t 9) (qx 2), qm 11 0, qb 12 .mul (.t 11) (qx 2), qb 13 .add (.t 12) (qx 2), qo 14 (.sliceStr (qy [48, 48, 48, 49, 48, 50, 48, 51, 48, 52, 48, 53, 48, 54, 48, 55, 48, 56, 48, 57, 49, 48, 49, 49, 49, 50, 49, 51, 49, 52, 49, 53, 49, 54, 49, 55, 49, 56, 49, 57, 50, 48, 50, 49, 50, 50, 50, 51, 50, 52, 50, 53, 50, 54, 50, 55, 50, 56, 50, 57, 51, 48, 51, 49, 51, 50, 51, 51, 51, 52, 51, 53, 51, 54, 51, 55, 51, 56, 51, 57, 52, 48, 52, 49, 52, 50, 52, 51, 52, 52, 52, 53, 52, 54, 52, 55, 52, 56, 52, 57, 53, 48, 53, 49, 53, 50, 53, 51, 53, 52, 53, 53, 53, 54, 53, 55, 53, 56, 53, 57, 54, 48, 54, 49, 54, 50, 54, 51, 54, 52, 54, 53, 54, 54, 54, 55, 54, 56, 54, 57, 55, 48, 55, 49, 55, 50, 55, 51, 55, 52, 55, 53, 55, 54, 55, 55, 55, 56, 55, 57, 56, 48, 56, 49, 56, 50, 56, 51, 56, 52, 56, 53, 56, 54, 56, 55, 56, 56, 56, 57, 57, 48, 57, 49, 57, 50, 57, 51, 57, 52, 57, 53, 57, 54, 57, 55, 57, 56, 57, 57]) (some (.t 10)) (some (.t 13))), qm 2 14] .ret))⟩
theorem rf_istrconv_small : resF Go.Proofs.Tryz.prog 138 = some i_istrconv_small := by kernel_rfl
noncomputable def c14_0 : List It := [.op (some 3) none (.mv (.t 6))]
noncomputable def c14_1 : List It := .call (some 6) none (.c (.func (.func n_istrconv_log10Pow2) [] [])) [.t 5] :: c14_0
noncomputable def c14_2 : List It := [.op (some 14) none (.bin .add (.t 7) (.t 13)), .op (some 2) none (.mv (.t 14))]
noncomputable def c14_3 : AC := .seq (.its (.op (some 7) none (.mv (.t 3)) :: .op (some 8) none (.mv (.t 0)) :: .op (some 9) none (.mv (.t 3)) :: .op (some 10) none (.idxA 20 1 (.g 1) (.t 9)) :: .op (some 11) none (.load none (.t 10)) :: .op (some 12) none (.bin .geq (.t 8) (.t 11)) :: .call (some 13) none (.c (.func (.func n_istrconv_bool2_int) [] [])) [.t 12] :: c14_2)) .ret
noncomputable def c14_4 : AC := .seq (.its (.op (some 4) none (.mv (.t 0)) :: .call (some 5) none (.c (.func (.func n_bits_Len64) [] [])) [.t 4] :: c14_1)) c14_3
noncomputable def c14_5 : AC := .seq (.its ([.op (some 2) none (.mv (.c (.int .i64 0)))])) c14_4
noncomputable def i_istrconv_numDigits : AFunc := ⟨15, [(2, none)], c14_5⟩
theorem rf_istrconv_numDigits : resF Go.Proofs.Tryz.prog n_istrconv_numDigits = some i_istrconv_numDigits := by kernel_rfl
noncomputable def c15_0 : List It := [.op (some 16) none (.pick (.t 10) (.t 15) (.c (.bool false))), .op (some 4) none (.mv (.t 16))]
noncomputable def c15_1 : List It := .op (some 10) none (.mv (.t 9)) :: .op (some 11) (some (10, true)) (.fieldAddr 1 (.t 2)) :: .op (some 12) (some (10, true)) (.load none (.t 11)) :: .op (some 13) (some (10, true)) (.fieldAddr 1 (.t 3)) :: .op (some 14) (some (10, true)) (.load none (.t 13)) :: .call (some 15) (some (10, true)) (.c (.func (.func n_kit_SameForms) [] [])) [.t 12, .t 14] :: c15_0
noncomputable def c15_2 : AC := .seq (.its (.op (some 5) none (.fieldAddr 0 (.t 2)) :: .op (some 6) none (.load none (.t 5)) :: .op (some 7) none (.fieldAddr 0 (.t 3)) :: .op (some 8) none (.load none (.t 7)) :: .call (some 9) none (.c (.func (.func n_kit_SameForms) [] [])) [.t 6, .t 8] :: c15_1)) .ret
noncomputable def c15_3 : AC := .seq (.its ([.op (some 2) none (.box (.t 0)), .op (some 3) none (.box (.t 1)), .op (some 4) none (.mv (.c (.bool false)))])) c15_2
noncomputable def i_kit_SameSeq : AFunc := ⟨17, [(4, none)], c15_3⟩
theorem rf_kit_SameSeq : resF Go.Proofs.Tryz.prog n_kit_SameSeq = some i_kit_SameSeq := by kernel_rfl
noncomputable def i_frame_masks : AFunc := ⟨29, [(4, none)], qa [qk 4 (.slice none 0 (some 0) 0)] (qa [qk 5 (.slice none 0 (some 0) 0)] (.seq (qa [qm 7 1, qo 8 (.len .slice (.t 7)), qb 9 .shl (qx 1) (.t 8), qk 10 (qi 0)] (.block 0 (.loop (qa [qv 11 .lss 10 9] (.seq (.cond (.t 11) .skip (.exit 0)) (.seq (.block 1 (qa [qm 12 10, qm 6 12] (qa [qm 13 0, qb 14 .eql (.t 13) (.c (qu 4)), qm 15 14, qh 16 15 false 1, qh 17 15 false 6, .call (some 18) (some (15, false)) (.c (qf 254)) [.t 16, .t 17], qh 19 15 false 6, qg 20 15 false (.bin .andNot (.t 18) (.t 19)), qg 21 15 false (.bin .eql (.t 20) (qx 0)), qp 22 15 21] (.cond (.t 22) (.its [qm 23 5, qm 24 6, qo 25 (.buildSlice 1 1 [qi 0] [(0, 1, .t 24)]), qo 26 (.append 1 8 (.t 23) (.t 25)), qm 5 26]) .skip)))) (.its [qb 27 .add (.t 10) (qx 1), qm 10 27]))))))) (qa [qm 28 5, qm 4 28] .ret)))⟩
theorem rf_frame_masks : resF Go.Proofs.Tryz.prog 249 = some i_frame_masks := by kernel_rfl
noncomputable def c16_0 : AC := .seq (.its ([.op (some 7) none (.mv (.t 0)), .op (some 8) none (.mv (.t 1)), .op (some 9) none (.load (some 4) (.t 5)), .op (some 10) none (.buildSlice 4 1 [.int .u8 0, .str [], .slice none 0 (some 0) 0, .slice none 0 (some 0) 0] [(0, 4, .t 9)]), .op (some 11) none (.build [.int .u8 0, .str [], .slice none 0 (some 0) 0, .slice none 0 (some 0) 0] [(0, 1, .t 7), (1, 1, .t 8), (3, 1, .t 10)]), .op none none (.store 4 (.t 6) (.t 11))])) .ret
noncomputable def c16_1 : AC := .seq (.its ([.op (some 5) none (.box (.t 2)), .op (some 6) none (.alloc [.int .u8 0, .str [], .slice none 0 (some 0) 0, .slice none 0 (some 0) 0])])) c16_0
noncomputable def i_law30_bound : AFunc := ⟨12, [(6, some (some 4))], c16_1⟩
theorem rf_law30_bound : resF Go.Proofs.Tryz.prog n_law30_bound = some i_law30_bound := by kernel_rfl
noncomputable def c17_0 : List It := [.op (some 2) none (.mv (.t 5))]
noncomputable def c17_1 : AC := .seq (.its (.op (some 4) none (.load (some 8) (.t 1)) :: .call (some 5) none (.c (.func (.func n_describe_fits) [] [])) [.t 4, .c (.int .i64 0), .t 3] :: c17_0)) .ret
noncomputable def c17_2 : AC := .seq (.its ([.op (some 3) none (.alloc [.int .i64 0]), .op none none (.store 1 (.t 3) (.c (.int .i64 300)))])) c17_1
noncomputable def c17_3 : AC := .seq (.its ([.op (some 1) none (.box (.t 0)), .op (some 2) none (.mv (.c (.bool false)))])) c17_2
noncomputable def i_describe_whole : AFunc := ⟨6, [(2, none)], c17_3⟩
theorem rf_describe_whole : resF Go.Proofs.Tryz.prog n_describe_whole = some i_describe_whole := by kernel_rfl
noncomputable def c18_0 : AC := .seq (.its ([.op (some 2) none (.mv (.c (.int .i64 1)))])) .ret
noncomputable def c18_1 : AC := .cond (.t 3) c18_0 .skip
noncomputable def c18_2 : AC := .seq (.its ([.op (some 2) none (.mv (.c (.int .i64 0)))])) .ret
noncomputable def c18_3 : AC := .seq (.seq (.its ([.op (some 3) none (.mv (.t 0))])) c18_1) c18_2
noncomputable def c18_4 : AC := .seq (.its ([.op (some 2) none (.mv (.c (.int .i64 0)))])) c18_3
noncomputable def i_istrconv_bool2_int : AFunc := ⟨4, [(2, none)], c18_4⟩
theorem rf_istrconv_bool2_int : resF Go.Proofs.Tryz.prog n_istrconv_bool2_int = some i_istrconv_bool2_int := by kernel_rfl
noncomputable def c19_0 : List It := [.op (some 8) none (.bin .eql (.t 7) (.c (.int .i64 0))), .op (some 4) none (.mv (.t 8))]
noncomputable def c19_1 : AC := .seq (.its (.op (some 5) none (.load (some 4) (.t 2)) :: .op (some 6) none (.load (some 4) (.t 3)) :: .call (some 7) none (.c (.func (.func n_syntax_Compare) [] [])) [.t 5, .t 6] :: c19_0)) .ret
noncomputable def c19_2 : AC := .seq (.its ([.op (some 2) none (.box (.t 0)), .op (some 3) none (.box (.t 1)), .op (some 4) none (.mv (.c (.bool false)))])) c19_1
noncomputable def i_syntax_Same : AFunc := ⟨9, [(4, none)], c19_2⟩
theorem rf_syntax_Same : resF Go.Proofs.Tryz.prog n_syntax_Same = some i_syntax_Same := by kernel_rfl
noncomputable def c20_0 : AC := .seq (.its ([.op (some 3) none (.mv (.t 0)), .op (some 4) none (.bin .geq (.t 3) (.c (.int .u8 97))), .op (some 5) none (.mv (.t 4)), .op (some 6) (some (5, true)) (.mv (.t 0)), .op (some 7) (some (5, true)) (.bin .leq (.t 6) (.c (.int .u8 116))), .op (some 8) none (.pick (.t 5) (.t 7) (.c (.bool false))), .op (some 2) none (.mv (.t 8))])) .ret
noncomputable def c20_1 : AC := .seq (.its ([.op (some 2) none (.mv (.c (.bool false)))])) c20_0
noncomputable def i_syntax_FunctionS1 : AFunc := ⟨9, [(2, none)], c20_1⟩
theorem rf_syntax_FunctionS1 : resF Go.Proofs.Tryz.prog n_syntax_FunctionS1 = some i_syntax_FunctionS1 := by kernel_rfl
noncomputable def c21_0 : AC := .seq (.its ([.op (some 3) none (.mv (.t 0)), .op (some 4) none (.bin .geq (.t 3) (.c (.int .u8 65))), .op (some 5) none (.mv (.t 4)), .op (some 6) (some (5, true)) (.mv (.t 0)), .op (some 7) (some (5, true)) (.bin .leq (.t 6) (.c (.int .u8 90))), .op (some 8) none (.pick (.t 5) (.t 7) (.c (.bool false))), .op (some 2) none (.mv (.t 8))])) .ret
noncomputable def c21_1 : AC := .seq (.its ([.op (some 2) none (.mv (.c (.bool false)))])) c21_0
noncomputable def i_syntax_capital : AFunc := ⟨9, [(2, none)], c21_1⟩
theorem rf_syntax_capital : resF Go.Proofs.Tryz.prog n_syntax_capital = some i_syntax_capital := by kernel_rfl
noncomputable def c22_0 : AC := .seq (.its ([.op (some 3) none (.mv (.t 0)), .op (some 4) none (.bin .geq (.t 3) (.c (.int .u8 97))), .op (some 5) none (.mv (.t 4)), .op (some 6) (some (5, true)) (.mv (.t 0)), .op (some 7) (some (5, true)) (.bin .leq (.t 6) (.c (.int .u8 122))), .op (some 8) none (.pick (.t 5) (.t 7) (.c (.bool false))), .op (some 2) none (.mv (.t 8))])) .ret
noncomputable def c22_1 : AC := .seq (.its ([.op (some 2) none (.mv (.c (.bool false)))])) c22_0
noncomputable def i_syntax_small : AFunc := ⟨9, [(2, none)], c22_1⟩
theorem rf_syntax_small : resF Go.Proofs.Tryz.prog n_syntax_small = some i_syntax_small := by kernel_rfl
noncomputable def c23_0 : List It := [.op (some 2) none (.mv (.t 4))]
noncomputable def c23_1 : AC := .seq (.its (.op (some 3) none (.mv (.t 0)) :: .call (some 4) none (.c (.func (.func n_syntax_name) [] [])) [.t 3, .c (.func (.func n_syntax_VariableS1) [] []), .c (.func (.func n_syntax_digit) [] [])] :: c23_0)) .ret
noncomputable def c23_2 : AC := .seq (.its ([.op (some 2) none (.mv (.c (.bool false)))])) c23_1
noncomputable def i_syntax_Variable : AFunc := ⟨5, [(2, none)], c23_2⟩
theorem rf_syntax_Variable : resF Go.Proofs.Tryz.prog n_syntax_Variable = some i_syntax_Variable := by kernel_rfl
noncomputable def c24_0 : AC := .seq (.its ([.op (some 5) none (.mv (.t 0)), .op (some 6) none (.mv (.t 1)), .op (some 7) none (.build [.int .u8 0, .str [], .slice none 0 (some 0) 0, .slice none 0 (some 0) 0] [(0, 1, .t 5), (3, 1, .t 6)]), .op none none (.store 4 (.t 4) (.t 7))])) .ret
noncomputable def c24_1 : AC := .seq (.its ([.op (some 4) none (.alloc [.int .u8 0, .str [], .slice none 0 (some 0) 0, .slice none 0 (some 0) 0])])) c24_0
noncomputable def i_law41_join : AFunc := ⟨8, [(4, some (some 4))], c24_1⟩
theorem rf_law41_join : resF Go.Proofs.Tryz.prog n_law41_join = some i_law41_join := by kernel_rfl
noncomputable def c25_0 : List It := [.op (some 7) none (.un .not (.t 6)), .op (some 3) none (.mv (.t 7))]
noncomputable def c25_1 : AC := .seq (.its (.op (some 4) none (.load none (.t 1)) :: .op (some 5) none (.mv (.t 0)) :: .call (some 6) none (.t 4) [.t 5] :: c25_0)) .ret
noncomputable def c25_2 : AC := .seq (.its ([.op (some 3) none (.mv (.c (.bool false)))])) c25_1
noncomputable def i_describe_fitsS2 : AFunc := ⟨8, [(3, none)], c25_2⟩
theorem rf_describe_fitsS2 : resF Go.Proofs.Tryz.prog n_describe_fitsS2 = some i_describe_fitsS2 := by kernel_rfl
noncomputable def i_frame_relation : AFunc := ⟨17, [(2, none)], qa [qo 1 (.box (.t 0)), qk 2 (.bool false)] (qa [ql 3 1, qo 4 (.len .slice (.t 3)), qb 5 .geq (.t 4) (qx 1), qm 6 5, qg 7 6 true (.load none (.t 1)), qg 8 6 true (.len .slice (.t 7)), qg 9 6 true (.bin .leq (.t 8) (qx 4)), qq 10 6 9, qm 11 10, qg 12 11 true (.load none (.t 1)), qg 13 11 true (.mkFunc (.func 252) [] [.t 1]), .call (some 14) (some (11, true)) (.c (qf 102)) [.t 12, .t 13], qg 15 11 true (.un .not (.t 14)), qq 16 11 15, qm 2 16] .ret)⟩
theorem rf_frame_relation : resF Go.Proofs.Tryz.prog 243 = some i_frame_relation := by kernel_rfl
noncomputable def c26_0 : AC := .seq (.its ([.op (some 3) none (.mv (.t 0)), .op (some 4) none (.bin .mul (.t 3) (.c (.int .i64 78913))), .op (some 5) none (.bin .shr (.t 4) (.c (.int .u64 18))), .op (some 2) none (.mv (.t 5))])) .ret
noncomputable def c26_1 : AC := .seq (.its ([.op (some 2) none (.mv (.c (.int .i64 0)))])) c26_0
noncomputable def i_istrconv_log10Pow2 : AFunc := ⟨6, [(2, none)], c26_1⟩
theorem rf_istrconv_log10Pow2 : resF Go.Proofs.Tryz.prog n_istrconv_log10Pow2 = some i_istrconv_log10Pow2 := by kernel_rfl
noncomputable def i_slices_Index_int : AFunc := ⟨19, [(4, none)], qa [qk 4 (qi 0)] (.seq (qa [qm 6 0, qo 7 (.len .slice (.t 6)), qk 8 (qi 0)] (.block 0 (.loop (qa [qv 9 .lss 8 7] (.seq (.cond (.t 9) .skip (.exit 0)) (.seq (.block 1 (qa [qm 10 8, qm 5 10] (qa [qm 11 1, qm 12 0, qm 13 5, qo 14 (.idxS 1 (.t 12) (.t 13)), ql 15 14, qv 16 .eql 11 15] (.cond (.t 16) (qa [qm 17 5, qm 4 17] .ret) .skip)))) (.its [qb 18 .add (.t 8) (qx 1), qm 8 18]))))))) (qa [qk 4 (qi (-1))] .ret))⟩
theorem rf_slices_Index_int : resF Go.Proofs.Tryz.prog 253 = some i_slices_Index_int := by kernel_rfl
noncomputable def c27_0 : AC := .seq (.its ([.op (some 3) none (.mv (.t 0)), .op (some 4) none (.mv (.t 0)), .op (some 5) none (.bin .neq (.t 3) (.t 4)), .op (some 2) none (.mv (.t 5))])) .ret
noncomputable def c27_1 : AC := .seq (.its ([.op (some 2) none (.mv (.c (.bool false)))])) c27_0
noncomputable def i_cmp_isNaN_uint8 : AFunc := ⟨6, [(2, none)], c27_1⟩
theorem rf_cmp_isNaN_uint8 : resF Go.Proofs.Tryz.prog n_cmp_isNaN_uint8 = some i_cmp_isNaN_uint8 := by kernel_rfl
noncomputable def i_describe_reader_formS1 : AFunc := ⟨13, [(3, none)], qa [qk 3 (.bool false)] (qa [qo 4 (.fieldAddr 3 (.t 1)), ql 5 4, qm 6 0, qo 7 (.lookup .str false .nilFunc (.t 5) (.t 6)), qo 8 (.eq (.nilOf .func) true (.t 7) (.c .nilFunc)), qm 9 8, qh 10 9 false 0, .call (some 11) (some (9, false)) (.c (qf 81)) [.t 10], qp 12 9 11, qm 3 12] .ret)⟩
theorem rf_describe_reader_formS1 : resF Go.Proofs.Tryz.prog 80 = some i_describe_reader_formS1 := by kernel_rfl
noncomputable def i_slices_Clone_int : AFunc := ⟨8, [(2, none)], qa [qk 2 (.slice none 0 (some 0) 0)] (.seq (qa [qm 3 0, qo 4 (.eq (.nilOf .slice) false (.t 3) (.c (.slice none 0 (some 0) 0)))] (.cond (.t 4) (qa [qk 2 (.slice none 0 (some 0) 0)] .ret) .skip)) (qa [qo 5 (.buildSlice 1 0 [] []), qm 6 0, qo 7 (.append 1 8 (.t 5) (.t 6)), qm 2 7] .ret))⟩
theorem rf_slices_Clone_int : resF Go.Proofs.Tryz.prog 251 = some i_slices_Clone_int := by kernel_rfl
noncomputable def i_law41_variable : AFunc := ⟨5, [(2, some (some 3))], qa [qo 2 (.alloc [.bool false, .str [], .slice none 0 (some 0) 0])] (qa [qm 3 0, qo 4 (.build [.bool false, .str [], .slice none 0 (some 0) 0] [(0, 1, .c (.bool true)), (1, 1, .t 3)]), qs 3 2 4] .ret)⟩
theorem rf_law41_variable : resF Go.Proofs.Tryz.prog 15 = some i_law41_variable := by kernel_rfl
noncomputable def i_slices_ContainsFunc_api_Fact : AFunc := ⟨9, [(4, none)], qa [qk 4 (.bool false)] (qa [qm 5 0, qm 6 1, qc 7 231 [.t 5, .t 6], qb 8 .geq (.t 7) (qx 0), qm 4 8] .ret)⟩
theorem rf_slices_ContainsFunc_api_Fact : resF Go.Proofs.Tryz.prog 213 = some i_slices_ContainsFunc_api_Fact := by kernel_rfl
noncomputable def i_slices_Contains_int : AFunc := ⟨9, [(4, none)], qa [qk 4 (.bool false)] (qa [qm 5 0, qm 6 1, qc 7 253 [.t 5, .t 6], qb 8 .geq (.t 7) (qx 0), qm 4 8] .ret)⟩
theorem rf_slices_Contains_int : resF Go.Proofs.Tryz.prog 248 = some i_slices_Contains_int := by kernel_rfl
noncomputable def i_strings_IndexFunc : AFunc := ⟨8, [(4, none)], qa [qk 4 (qi 0)] (qa [qm 5 0, qm 6 1, qc 7 169 [.t 5, .t 6, .c (.bool true)], qm 4 7] .ret)⟩
theorem rf_strings_IndexFunc : resF Go.Proofs.Tryz.prog 156 = some i_strings_IndexFunc := by kernel_rfl
end Go.Am
namespace Go.Am
open Go.Proofs
set_option maxRecDepth 100000
noncomputable def c28_0 : AC := .cond (.t 17) .skip (.exit 0)
noncomputable def c28_1 : List It := [.op (some 42) none (.buildSlice 4 1 [.int .u8 0, .str [], .slice none 0 (some 0) 0, .slice none 0 (some 0) 0] [(0, 4, .t 41)]), .op (some 43) none (.append 4 72 (.t 35) (.t 42)), .op (some 3) none (.mv (.t 43))]
noncomputable def c28_2 : AC := .its (.op (some 35) none (.mv (.t 3)) :: .op (some 36) none (.buildSlice 1 3 [.str [], .str [], .str []] [(0, 1, .c (.str [80])), (1, 1, .c (.str [81])), (2, 1, .c (.str [82]))]) :: .op (some 37) none (.mv (.t 6)) :: .op (some 38) none (.bin .rem (.t 37) (.c (.int .u8 3))) :: .op (some 39) none (.idxS 1 (.t 36) (.t 38)) :: .op (some 40) none (.load none (.t 39)) :: .call (some 41) none (.c (.func (.func n_law30_atom) [] [])) [.t 40, .c (.slice none 0 (some 0) 0)] :: c28_1)
noncomputable def c28_3 : List It := [.op (some 57) none (.buildSlice 4 1 [.int .u8 0, .str [], .slice none 0 (some 0) 0, .slice none 0 (some 0) 0] [(0, 4, .t 56)]), .op (some 58) none (.append 4 72 (.t 47) (.t 57)), .op (some 3) none (.mv (.t 58))]
noncomputable def c28_4 : List It := .again 52 none (.load none (.t 51)) :: .again 48 none (.buildSlice 1 2 [.str [], .str []] [(0, 1, .c (.str [80])), (1, 1, .c (.str [81]))]) :: .op (some 55) none (.buildSlice 3 1 [.bool false, .str [], .slice none 0 (some 0) 0] [(0, 3, .t 54)]) :: .call (some 56) none (.c (.func (.func n_law30_atom) [] [])) [.t 52, .t 55] :: c28_3
noncomputable def c28_5 : AC := .its (.op (some 47) none (.mv (.t 3)) :: .op (some 48) none (.buildSlice 1 2 [.str [], .str []] [(0, 1, .c (.str [80])), (1, 1, .c (.str [81]))]) :: .op (some 49) none (.mv (.t 7)) :: .op (some 50) none (.bin .rem (.t 49) (.c (.int .u8 2))) :: .op (some 51) none (.idxS 1 (.t 48) (.t 50)) :: .op (some 52) none (.load none (.t 51)) :: .op (some 53) none (.mv (.t 6)) :: .call (some 54) none (.c (.func (.func n_law30_term) [] [])) [.t 53] :: c28_4)
noncomputable def c28_6 : List It := [.op (some 70) none (.buildSlice 4 1 [.int .u8 0, .str [], .slice none 0 (some 0) 0, .slice none 0 (some 0) 0] [(0, 4, .t 69)]), .op (some 71) none (.append 4 72 (.t 62) (.t 70)), .op (some 3) none (.mv (.t 71))]
noncomputable def c28_7 : List It := .op (some 68) none (.buildSlice 3 2 [.bool false, .str [], .slice none 0 (some 0) 0, .bool false, .str [], .slice none 0 (some 0) 0] [(0, 3, .t 64), (3, 3, .t 67)]) :: .call (some 69) none (.c (.func (.func n_law30_atom) [] [])) [.c (.str [82]), .t 68] :: c28_6
noncomputable def c28_8 : List It := .op (some 65) none (.mv (.t 6)) :: .op (some 66) none (.bin .quo (.t 65) (.c (.int .u8 3))) :: .call (some 67) none (.c (.func (.func n_law30_term) [] [])) [.t 66] :: c28_7
noncomputable def c28_9 : AC := .its (.op (some 62) none (.mv (.t 3)) :: .op (some 63) none (.mv (.t 6)) :: .call (some 64) none (.c (.func (.func n_law30_term) [] [])) [.t 63] :: c28_8)
noncomputable def c28_10 : List It := [.op (some 77) none (.buildSlice 4 1 [.int .u8 0, .str [], .slice none 0 (some 0) 0, .slice none 0 (some 0) 0] [(0, 4, .t 76)]), .op (some 78) none (.append 4 72 (.t 75) (.t 77)), .op (some 3) none (.mv (.t 78))]
noncomputable def c28_11 : AC := .its (.op (some 75) none (.mv (.t 3)) :: .call (some 76) none (.c (.func (.func n_law30_join) [] [])) [.c (.int .u8 2), .c (.slice none 0 (some 0) 0)] :: c28_10)
noncomputable def c28_12 : List It := [.op (some 104) none (.buildSlice 4 1 [.int .u8 0, .str [], .slice none 0 (some 0) 0, .slice none 0 (some 0) 0] [(0, 4, .t 103)]), .op (some 105) none (.append 4 72 (.t 91) (.t 104)), .op (some 3) none (.mv (.t 105))]
noncomputable def c28_13 : AC := .its (.op (some 86) none (.mv (.t 3)) :: .op (some 87) none (.mv (.t 5)) :: .op (some 88) none (.bin .sub (.t 87) (.c (.int .i64 1))) :: .op (some 89) none (.mv (.t 5)) :: .op (some 90) none (.bin .sub (.t 89) (.c (.int .i64 1))) :: .op (some 91) none (.sliceS 4 (.t 86) none (some (.t 88)) (some (.t 90))) :: .op (some 92) none (.buildSlice 1 3 [.int .u8 0, .int .u8 0, .int .u8 0] [(0, 1, .c (.int .u8 3)), (1, 1, .c (.int .u8 10)), (2, 1, .c (.int .u8 12))]) :: .op (some 93) none (.mv (.t 6)) :: .op (some 94) none (.bin .rem (.t 93) (.c (.int .u8 3))) :: .op (some 95) none (.idxS 1 (.t 92) (.t 94)) :: .op (some 96) none (.load none (.t 95)) :: .op (some 97) none (.mv (.t 3)) :: .op (some 98) none (.mv (.t 5)) :: .op (some 99) none (.bin .sub (.t 98) (.c (.int .i64 1))) :: .op (some 100) none (.idxS 4 (.t 97) (.t 99)) :: .op (some 101) none (.load (some 4) (.t 100)) :: .op (some 102) none (.buildSlice 4 1 [.int .u8 0, .str [], .slice none 0 (some 0) 0, .slice none 0 (some 0) 0] [(0, 4, .t 101)]) :: .call (some 103) none (.c (.func (.func n_law30_join) [] [])) [.t 96, .t 102] :: c28_12)
noncomputable def c28_14 : List It := [.op (some 140) none (.buildSlice 4 1 [.int .u8 0, .str [], .slice none 0 (some 0) 0, .slice none 0 (some 0) 0] [(0, 4, .t 139)]), .op (some 141) none (.append 4 72 (.t 122) (.t 140)), .op (some 3) none (.mv (.t 141))]
noncomputable def c28_15 : AC := .its (.op (some 117) none (.mv (.t 3)) :: .op (some 118) none (.mv (.t 5)) :: .op (some 119) none (.bin .sub (.t 118) (.c (.int .i64 2))) :: .op (some 120) none (.mv (.t 5)) :: .op (some 121) none (.bin .sub (.t 120) (.c (.int .i64 2))) :: .op (some 122) none (.sliceS 4 (.t 117) none (some (.t 119)) (some (.t 121))) :: .op (some 123) none (.buildSlice 1 3 [.int .u8 0, .int .u8 0, .int .u8 0] [(0, 1, .c (.int .u8 4)), (1, 1, .c (.int .u8 5)), (2, 1, .c (.int .u8 6))]) :: .op (some 124) none (.mv (.t 7)) :: .op (some 125) none (.bin .sub (.t 124) (.c (.int .u8 7))) :: .op (some 126) none (.idxS 1 (.t 123) (.t 125)) :: .op (some 127) none (.load none (.t 126)) :: .op (some 128) none (.mv (.t 3)) :: .op (some 129) none (.mv (.t 5)) :: .op (some 130) none (.bin .sub (.t 129) (.c (.int .i64 2))) :: .op (some 131) none (.idxS 4 (.t 128) (.t 130)) :: .op (some 132) none (.load (some 4) (.t 131)) :: .op (some 133) none (.mv (.t 3)) :: .op (some 134) none (.mv (.t 5)) :: .op (some 135) none (.bin .sub (.t 134) (.c (.int .i64 1))) :: .op (some 136) none (.idxS 4 (.t 133) (.t 135)) :: .op (some 137) none (.load (some 4) (.t 136)) :: .op (some 138) none (.buildSlice 4 2 [.int .u8 0, .str [], .slice none 0 (some 0) 0, .slice none 0 (some 0) 0, .int .u8 0, .str [], .slice none 0 (some 0) 0, .slice none 0 (some 0) 0] [(0, 4, .t 132), (4, 4, .t 137)]) :: .call (some 139) none (.c (.func (.func n_law30_join) [] [])) [.t 127, .t 138] :: c28_14)
noncomputable def c28_16 : List It := [.op (some 169) none (.buildSlice 4 1 [.int .u8 0, .str [], .slice none 0 (some 0) 0, .slice none 0 (some 0) 0] [(0, 4, .t 168)]), .op (some 170) none (.append 4 72 (.t 154) (.t 169)), .op (some 3) none (.mv (.t 170))]
noncomputable def c28_17 : AC := .its (.op (some 149) none (.mv (.t 3)) :: .op (some 150) none (.mv (.t 5)) :: .op (some 151) none (.bin .sub (.t 150) (.c (.int .i64 1))) :: .op (some 152) none (.mv (.t 5)) :: .op (some 153) none (.bin .sub (.t 152) (.c (.int .i64 1))) :: .op (some 154) none (.sliceS 4 (.t 149) none (some (.t 151)) (some (.t 153))) :: .op (some 155) none (.mv (.t 7)) :: .op (some 156) none (.bin .add (.c (.int .u8 8)) (.t 155)) :: .op (some 157) none (.bin .sub (.t 156) (.c (.int .u8 10))) :: .op (some 158) none (.buildSlice 1 3 [.str [], .str [], .str []] [(0, 1, .c (.str [120])), (1, 1, .c (.str [121])), (2, 1, .c (.str [122]))]) :: .op (some 159) none (.mv (.t 6)) :: .op (some 160) none (.bin .rem (.t 159) (.c (.int .u8 3))) :: .op (some 161) none (.idxS 1 (.t 158) (.t 160)) :: .op (some 162) none (.load none (.t 161)) :: .op (some 163) none (.mv (.t 3)) :: .op (some 164) none (.mv (.t 5)) :: .op (some 165) none (.bin .sub (.t 164) (.c (.int .i64 1))) :: .op (some 166) none (.idxS 4 (.t 163) (.t 165)) :: .op (some 167) none (.load (some 4) (.t 166)) :: .call (some 168) none (.c (.func (.func n_law30_bound) [] [])) [.t 157, .t 162, .t 167] :: c28_16)
noncomputable def c28_18 : AC := .cond (.t 142) c28_17 .skip
noncomputable def c28_19 : AC := .seq (.its ([.op (some 143) none (.mv (.t 7)), .op (some 144) none (.bin .geq (.t 143) (.c (.int .u8 10))), .op (some 145) none (.mv (.t 144)), .op (some 146) (some (145, true)) (.mv (.t 5)), .op (some 147) (some (145, true)) (.bin .geq (.t 146) (.c (.int .i64 1))), .op (some 148) none (.pick (.t 145) (.t 147) (.c (.bool false))), .op (some 142) none (.mv (.t 148))])) c28_18
noncomputable def c28_20 : AC := .cond (.t 106) c28_15 c28_19
noncomputable def c28_21 : AC := .seq (.its ([.op (some 107) none (.mv (.t 7)), .op (some 108) none (.bin .geq (.t 107) (.c (.int .u8 7))), .op (some 109) none (.mv (.t 108)), .op (some 110) (some (109, true)) (.mv (.t 7)), .op (some 111) (some (109, true)) (.bin .lss (.t 110) (.c (.int .u8 10))), .op (some 112) none (.pick (.t 109) (.t 111) (.c (.bool false))), .op (some 113) none (.mv (.t 112)), .op (some 114) (some (113, true)) (.mv (.t 5)), .op (some 115) (some (113, true)) (.bin .geq (.t 114) (.c (.int .i64 2))), .op (some 116) none (.pick (.t 113) (.t 115) (.c (.bool false))), .op (some 106) none (.mv (.t 116))])) c28_20
noncomputable def c28_22 : AC := .cond (.t 79) c28_13 c28_21
noncomputable def c28_23 : AC := .seq (.its ([.op (some 80) none (.mv (.t 7)), .op (some 81) none (.bin .eql (.t 80) (.c (.int .u8 6))), .op (some 82) none (.mv (.t 81)), .op (some 83) (some (82, true)) (.mv (.t 5)), .op (some 84) (some (82, true)) (.bin .geq (.t 83) (.c (.int .i64 1))), .op (some 85) none (.pick (.t 82) (.t 84) (.c (.bool false))), .op (some 79) none (.mv (.t 85))])) c28_22
noncomputable def c28_24 : AC := .cond (.t 72) c28_11 c28_23
noncomputable def c28_25 : AC := .seq (.its ([.op (some 73) none (.mv (.t 7)), .op (some 74) none (.bin .eql (.t 73) (.c (.int .u8 5))), .op (some 72) none (.mv (.t 74))])) c28_24
noncomputable def c28_26 : AC := .cond (.t 59) c28_9 c28_25
noncomputable def c28_27 : AC := .seq (.its ([.op (some 60) none (.mv (.t 7)), .op (some 61) none (.bin .eql (.t 60) (.c (.int .u8 4))), .op (some 59) none (.mv (.t 61))])) c28_26
noncomputable def c28_28 : AC := .cond (.t 44) c28_5 c28_27
noncomputable def c28_29 : AC := .seq (.its ([.op (some 45) none (.mv (.t 7)), .op (some 46) none (.bin .lss (.t 45) (.c (.int .u8 4))), .op (some 44) none (.mv (.t 46))])) c28_28
noncomputable def c28_30 : AC := .cond (.t 32) c28_2 c28_29
noncomputable def c28_31 : AC := .seq (.its ([.op (some 33) none (.mv (.t 7)), .op (some 34) none (.bin .lss (.t 33) (.c (.int .u8 2))), .op (some 32) none (.mv (.t 34))])) c28_30
noncomputable def c28_32 : AC := .block 2 c28_31
noncomputable def c28_33 : AC := .seq (.its ([.op (some 27) none (.mv (.t 0)), .op (some 28) none (.mv (.t 4)), .op (some 29) none (.idxS 1 (.t 27) (.t 28)), .op (some 30) none (.load none (.t 29)), .op (some 31) none (.bin .rem (.t 30) (.c (.int .u8 12))), .op (some 7) none (.mv (.t 31))])) c28_32
noncomputable def c28_34 : AC := .seq (.its ([.op (some 20) none (.mv (.t 3)), .op (some 21) none (.len .slice (.t 20)), .op (some 22) none (.mv (.t 0)), .op (some 23) none (.mv (.t 4)), .op (some 24) none (.idxS 1 (.t 22) (.t 23)), .op (some 25) none (.load none (.t 24)), .op (some 26) none (.bin .quo (.t 25) (.c (.int .u8 12))), .op (some 5) none (.mv (.t 21)), .again 25 none (.load none (.t 24)), .op (some 6) none (.mv (.t 26))])) c28_33
noncomputable def c28_35 : AC := .its ([.op (some 18) none (.mv (.t 4)), .op (some 19) none (.bin .add (.t 18) (.c (.int .i64 1))), .op (some 4) none (.mv (.t 19))])
noncomputable def c28_36 : AC := .seq (.block 1 c28_34) c28_35
noncomputable def c28_37 : AC := .seq (.seq (.its ([.op (some 10) none (.mv (.t 4)), .op (some 11) none (.mv (.t 0)), .op (some 12) none (.len .slice (.t 11)), .op (some 13) none (.bin .lss (.t 10) (.t 12)), .op (some 14) none (.mv (.t 13)), .op (some 15) (some (14, true)) (.mv (.t 4)), .op (some 16) (some (14, true)) (.bin .lss (.t 15) (.c (.int .i64 20))), .op (some 17) none (.pick (.t 14) (.t 16) (.c (.bool false)))])) c28_0) c28_36
noncomputable def c28_38 : AC := .loop c28_37
noncomputable def c28_39 : AC := .block 0 c28_38
noncomputable def c28_40 : List It := [.op none none (.store 4 (.t 2) (.t 174))]
noncomputable def c28_41 : AC := .seq (.its (.call (some 174) none (.c (.func (.func n_law30_join) [] [])) [.c (.int .u8 2), .c (.slice none 0 (some 0) 0)] :: c28_40)) .ret
noncomputable def c28_42 : AC := .cond (.t 173) c28_41 .skip
noncomputable def c28_43 : AC := .cond (.t 181) .skip (.exit 3)
noncomputable def c28_44 : List It := [.op none none (.store 4 (.t 8) (.t 190))]
noncomputable def c28_45 : AC := .its (.op (some 184) none (.load (some 4) (.t 8)) :: .op (some 185) none (.mv (.t 3)) :: .op (some 186) none (.mv (.t 9)) :: .op (some 187) none (.idxS 4 (.t 185) (.t 186)) :: .op (some 188) none (.load (some 4) (.t 187)) :: .op (some 189) none (.buildSlice 4 2 [.int .u8 0, .str [], .slice none 0 (some 0) 0, .slice none 0 (some 0) 0, .int .u8 0, .str [], .slice none 0 (some 0) 0, .slice none 0 (some 0) 0] [(0, 4, .t 184), (4, 4, .t 188)]) :: .call (some 190) none (.c (.func (.func n_law30_join) [] [])) [.c (.int .u8 14), .t 189] :: c28_44)
noncomputable def c28_46 : AC := .its ([.op (some 182) none (.mv (.t 9)), .op (some 183) none (.bin .add (.t 182) (.c (.int .i64 1))), .op (some 9) none (.mv (.t 183))])
noncomputable def c28_47 : AC := .seq (.block 4 c28_45) c28_46
noncomputable def c28_48 : AC := .seq (.seq (.its ([.op (some 178) none (.mv (.t 9)), .op (some 179) none (.mv (.t 3)), .op (some 180) none (.len .slice (.t 179)), .op (some 181) none (.bin .lss (.t 178) (.t 180))])) c28_43) c28_47
noncomputable def c28_49 : AC := .loop c28_48
noncomputable def c28_50 : AC := .block 3 c28_49
noncomputable def c28_51 : AC := .seq (.its ([.op (some 191) none (.load (some 4) (.t 8)), .op none none (.store 4 (.t 2) (.t 191))])) .ret
noncomputable def c28_52 : AC := .seq (.seq (.its ([.op (some 9) none (.mv (.c (.int .i64 1)))])) c28_50) c28_51
noncomputable def c28_53 : AC := .seq (.its ([.op (some 175) none (.mv (.t 3)), .op (some 176) none (.idxS 4 (.t 175) (.c (.int .i64 0))), .op (some 177) none (.load (some 4) (.t 176)), .op (some 8) none (.alloc [.int .u8 0, .str [], .slice none 0 (some 0) 0, .slice none 0 (some 0) 0]), .op none none (.store 4 (.t 8) (.t 177))])) c28_52
noncomputable def c28_54 : AC := .seq (.seq (.its ([.op (some 171) none (.mv (.t 3)), .op (some 172) none (.len .slice (.t 171)), .op (some 173) none (.bin .eql (.t 172) (.c (.int .i64 0)))])) c28_42) c28_53
noncomputable def c28_55 : AC := .seq (.seq (.its ([.op (some 4) none (.mv (.c (.int .i64 0)))])) c28_39) c28_54
noncomputable def c28_56 : AC := .seq (.its ([.op (some 3) none (.mv (.c (.slice none 0 (some 0) 0)))])) c28_55
noncomputable def c28_57 : AC := .seq (.its ([.op (some 2) none (.alloc [.int .u8 0, .str [], .slice none 0 (some 0) 0, .slice none 0 (some 0) 0])])) c28_56
noncomputable def i_law30_Built : AFunc := ⟨192, [(2, some (some 4))], c28_57⟩
theorem rf_law30_Built : resF Go.Proofs.Tryz.prog n_law30_Built = some i_law30_Built := by kernel_rfl
noncomputable def c29_0 : List It := [.op (some 8) none (.mv (.t 22))]
noncomputable def c29_1 : List It := .call (some 22) none (.c (.func (.func n_strconv_Itoa) [] [])) [.t 21] :: c29_0
noncomputable def c29_2 : List It := [.op (some 8) none (.mv (.t 38))]
noncomputable def c29_3 : List It := .op (some 37) none (.buildSlice 1 3 [.str [], .str [], .str []] [(0, 1, .t 30), (1, 1, .c (.str [101, 110, 100, 105, 110, 103])), (2, 1, .t 36)]) :: .call (some 38) none (.c (.func (.func n_describe_join) [] [])) [.t 37] :: c29_2
noncomputable def c29_4 : AC := .its (.op (some 30) none (.mv (.t 8)) :: .op (some 31) none (.fieldAddr 7 (.t 3)) :: .op (some 32) none (.load none (.t 31)) :: .op (some 33) none (.mv (.t 6)) :: .op (some 34) none (.idxS 1 (.t 32) (.t 33)) :: .op (some 35) none (.load none (.t 34)) :: .call (some 36) none (.c (.func (.func n_describe_list) [] [])) [.t 35] :: c29_3)
noncomputable def c29_5 : AC := .cond (.t 29) c29_4 .skip
noncomputable def c29_6 : AC := .its ([.op (some 39) none (.mv (.t 5)), .op (some 40) none (.mv (.t 8)), .op (some 41) none (.buildSlice 1 1 [.str []] [(0, 1, .t 40)]), .op (some 42) none (.append 1 16 (.t 39) (.t 41)), .op (some 5) none (.mv (.t 42))])
noncomputable def c29_7 : AC := .seq (.seq (.its ([.op (some 23) none (.fieldAddr 7 (.t 3)), .op (some 24) none (.load none (.t 23)), .op (some 25) none (.mv (.t 6)), .op (some 26) none (.idxS 1 (.t 24) (.t 25)), .op (some 27) none (.load none (.t 26)), .op (some 28) none (.len .slice (.t 27)), .op (some 29) none (.bin .gtr (.t 28) (.c (.int .i64 0)))])) c29_5) c29_6
noncomputable def c29_8 : AC := .seq (.its (.op (some 19) none (.load none (.t 1)) :: .op (some 20) none (.load (some 8) (.t 7)) :: .call (some 21) none (.t 19) [.t 20] :: c29_1)) c29_7
noncomputable def c29_9 : AC := .seq (.its ([.op (some 16) none (.mv (.t 14)), .op (some 17) none (.idxS 8 (.t 12) (.t 14)), .op (some 18) none (.load (some 8) (.t 17)), .op (some 7) none (.alloc [.str [], .int .u8 0, .str [], .slice none 0 (some 0) 0, .slice none 0 (some 0) 0, .int .i64 0, .slice none 0 (some 0) 0, .slice none 0 (some 0) 0]), .op (some 6) none (.mv (.t 16)), .op none none (.store 8 (.t 7) (.t 18))])) c29_8
noncomputable def c29_10 : AC := .its ([.op (some 43) none (.bin .add (.t 14) (.c (.int .i64 1))), .op (some 14) none (.mv (.t 43))])
noncomputable def c29_11 : AC := .seq (.block 1 c29_9) c29_10
noncomputable def c29_12 : AC := .seq (.cond (.t 15) .skip (.exit 0)) c29_11
noncomputable def c29_13 : AC := .seq (.its ([.op (some 15) none (.bin .lss (.t 14) (.t 13))])) c29_12
noncomputable def c29_14 : AC := .loop c29_13
noncomputable def c29_15 : AC := .block 0 c29_14
noncomputable def c29_16 : List It := [.op (some 49) none (.bin .add (.t 48) (.c (.str [58, 32]))), .op (some 10) none (.mv (.t 49))]
noncomputable def c29_17 : List It := [.op (some 76) none (.bin .add (.t 72) (.t 75)), .op (some 77) none (.bin .add (.t 67) (.t 76)), .op (some 10) none (.mv (.t 77))]
noncomputable def c29_18 : List It := .again 74 none (.load (some 4) (.t 73)) :: .op (some 71) none (.bin .add (.c (.str [97, 115, 115, 117, 109, 101, 32])) (.t 70)) :: .op (some 72) none (.bin .add (.t 71) (.c (.str [44, 32]))) :: .call (some 75) none (.c (.func (.func n_describe_text) [] [])) [.t 74] :: c29_17
noncomputable def c29_19 : AC := .its (.op (some 67) none (.mv (.t 10)) :: .op (some 68) none (.fieldAddr 5 (.t 3)) :: .op (some 69) none (.load none (.t 68)) :: .op (some 73) none (.fieldAddr 1 (.t 3)) :: .op (some 74) none (.load (some 4) (.t 73)) :: .call (some 70) none (.c (.func (.func n_strconv_Itoa) [] [])) [.t 69] :: c29_18)
noncomputable def c29_20 : List It := [.op (some 86) none (.bin .add (.t 85) (.c (.str [44, 32, 115, 116, 105, 108, 108, 32, 116, 111, 32, 115, 104, 111, 119]))), .op (some 87) none (.bin .add (.t 82) (.t 86)), .op (some 10) none (.mv (.t 87))]
noncomputable def c29_21 : AC := .its (.op (some 82) none (.mv (.t 10)) :: .op (some 83) none (.fieldAddr 1 (.t 3)) :: .op (some 84) none (.load (some 4) (.t 83)) :: .call (some 85) none (.c (.func (.func n_describe_text) [] [])) [.t 84] :: c29_20)
noncomputable def c29_22 : List It := [.again 98 none (.load none (.t 97)), .op (some 96) none (.bin .add (.t 95) (.c (.str [44, 32, 98, 121, 32]))), .op (some 99) none (.bin .add (.t 96) (.t 98)), .op (some 100) none (.bin .add (.t 92) (.t 99)), .op (some 10) none (.mv (.t 100))]
noncomputable def c29_23 : AC := .its (.op (some 92) none (.mv (.t 10)) :: .op (some 93) none (.fieldAddr 1 (.t 3)) :: .op (some 94) none (.load (some 4) (.t 93)) :: .op (some 97) none (.fieldAddr 0 (.t 3)) :: .op (some 98) none (.load none (.t 97)) :: .call (some 95) none (.c (.func (.func n_describe_text) [] [])) [.t 94] :: c29_22)
noncomputable def c29_24 : List It := [.again 56 none (.load none (.t 55)), .op (some 61) none (.bin .add (.t 58) (.t 60)), .op (some 62) none (.bin .add (.t 50) (.t 61)), .op (some 10) none (.mv (.t 62))]
noncomputable def c29_25 : List It := .again 56 none (.load none (.t 55)) :: .op (some 54) none (.bin .add (.t 53) (.c (.str [44, 32, 98, 121, 32]))) :: .op (some 57) none (.bin .add (.t 54) (.t 56)) :: .op (some 58) none (.bin .add (.t 57) (.c (.str [32, 102, 114, 111, 109, 32]))) :: .call (some 60) none (.c (.func (.func n_strings_Join) [] [])) [.t 59, .c (.str [44, 32])] :: c29_24
noncomputable def c29_26 : AC := .its (.op (some 50) none (.mv (.t 10)) :: .op (some 51) none (.fieldAddr 1 (.t 3)) :: .op (some 52) none (.load (some 4) (.t 51)) :: .op (some 55) none (.fieldAddr 0 (.t 3)) :: .op (some 56) none (.load none (.t 55)) :: .op (some 59) none (.mv (.t 5)) :: .call (some 53) none (.c (.func (.func n_describe_text) [] [])) [.t 52] :: c29_25)
noncomputable def c29_27 : AC := .cond (.t 88) c29_23 c29_26
noncomputable def c29_28 : AC := .seq (.its ([.op (some 89) none (.mv (.t 5)), .op (some 90) none (.len .slice (.t 89)), .op (some 91) none (.bin .eql (.t 90) (.c (.int .i64 0))), .op (some 88) none (.mv (.t 91))])) c29_27
noncomputable def c29_29 : AC := .cond (.t 78) c29_21 c29_28
noncomputable def c29_30 : AC := .seq (.its ([.op (some 79) none (.fieldAddr 0 (.t 3)), .op (some 80) none (.load none (.t 79)), .op (some 81) none (.bin .eql (.t 80) (.c (.str [63]))), .op (some 78) none (.mv (.t 81))])) c29_29
noncomputable def c29_31 : AC := .cond (.t 63) c29_19 c29_30
noncomputable def c29_32 : AC := .seq (.its ([.op (some 64) none (.fieldAddr 0 (.t 3)), .op (some 65) none (.load none (.t 64)), .op (some 66) none (.bin .eql (.t 65) (.c (.str []))), .op (some 63) none (.mv (.t 66))])) c29_31
noncomputable def c29_33 : AC := .seq (.its ([.op (some 105) none (.mv (.t 9)), .op (some 4) none (.mv (.t 105))])) .ret
noncomputable def c29_34 : AC := .seq (.its ([.op (some 101) none (.load none (.t 2)), .op (some 102) none (.mv (.t 10)), .op (some 103) none (.buildSlice 1 1 [.str []] [(0, 1, .t 102)]), .op (some 104) none (.append 1 16 (.t 101) (.t 103)), .op none none (.store 1 (.t 2) (.t 104))])) c29_33
noncomputable def c29_35 : AC := .seq (.block 2 c29_32) c29_34
noncomputable def c29_36 : AC := .seq (.its (.op (some 47) none (.mv (.t 9)) :: .call (some 48) none (.c (.func (.func n_strconv_Itoa) [] [])) [.t 47] :: c29_16)) c29_35
noncomputable def c29_37 : AC := .seq (.its ([.op (some 44) none (.load none (.t 2)), .op (some 45) none (.len .slice (.t 44)), .op (some 46) none (.bin .add (.t 45) (.c (.int .i64 1))), .op (some 9) none (.mv (.t 46))])) c29_36
noncomputable def c29_38 : AC := .seq (.seq (.its ([.op (some 11) none (.fieldAddr 6 (.t 3)), .op (some 12) none (.load none (.t 11)), .op (some 13) none (.len .slice (.t 12)), .op (some 14) none (.mv (.c (.int .i64 0)))])) c29_15) c29_37
noncomputable def c29_39 : AC := .seq (.its ([.op (some 5) none (.mv (.c (.slice none 0 (some 0) 0)))])) c29_38
noncomputable def c29_40 : AC := .seq (.its ([.op (some 3) none (.box (.t 0)), .op (some 4) none (.mv (.c (.int .i64 0)))])) c29_39
noncomputable def i_describe_ProofS1 : AFunc := ⟨106, [(4, none)], c29_40⟩
theorem rf_describe_ProofS1 : resF Go.Proofs.Tryz.prog n_describe_ProofS1 = some i_describe_ProofS1 := by kernel_rfl
noncomputable def c30_0 : List It := [.op (some 4) none (.mv (.t 19))]
noncomputable def c30_1 : AC := .seq (.its (.op (some 18) none (.mv (.t 0)) :: .call (some 19) none (.c (.func (.func n_istrconv_small) [] [])) [.t 18] :: c30_0)) .ret
noncomputable def c30_2 : AC := .cond (.t 17) c30_1 .skip
noncomputable def c30_3 : AC := .its ([.op (some 24) none (.mv (.t 6)), .op (some 25) none (.un .neg (.t 24)), .op (some 6) none (.mv (.t 25))])
noncomputable def c30_4 : AC := .cond (.t 23) c30_3 .skip
noncomputable def c30_5 : List It := [.op (some 7) none (.mv (.t 27))]
noncomputable def c30_6 : AC := .seq (.its ([.op (some 36) none (.mv (.t 7)), .op (some 37) none (.bin .add (.c (.int .i64 1)) (.t 36)), .op (some 38) none (.sliceA 24 1 (.t 5) none (some (.t 37)) none), .op (some 39) none (.bytesStr (.t 38)), .op (some 4) none (.mv (.t 39))])) .ret
noncomputable def c30_7 : AC := .seq (.its ([.op (some 35) none (.idxA 24 1 (.t 5) (.c (.int .i64 0))), .op none none (.store 1 (.t 35) (.c (.int .u8 45)))])) c30_6
noncomputable def c30_8 : AC := .cond (.t 34) c30_7 .skip
noncomputable def c30_9 : AC := .seq (.its ([.op (some 40) none (.mv (.t 7)), .op (some 41) none (.bin .add (.c (.int .i64 1)) (.t 40)), .op (some 42) none (.sliceA 24 1 (.t 5) (some (.c (.int .i64 1))) (some (.t 41)) none), .op (some 43) none (.bytesStr (.t 42)), .op (some 4) none (.mv (.t 43))])) .ret
noncomputable def c30_10 : AC := .seq (.seq (.its ([.op (some 33) none (.mv (.t 0)), .op (some 34) none (.bin .lss (.t 33) (.c (.int .i64 0)))])) c30_8) c30_9
noncomputable def c30_11 : AC := .seq (.its ([.op (some 28) none (.mv (.t 7)), .op (some 29) none (.bin .add (.c (.int .i64 1)) (.t 28)), .op (some 30) none (.sliceA 24 1 (.t 5) (some (.c (.int .i64 1))) (some (.t 29)) none), .op (some 31) none (.mv (.t 6)), .call (some 32) none (.c (.func (.func n_istrconv_formatBase10) [] [])) [.t 30, .t 31]])) c30_10
noncomputable def c30_12 : AC := .seq (.its (.op (some 26) none (.mv (.t 6)) :: .call (some 27) none (.c (.func (.func n_istrconv_numDigits) [] [])) [.t 26] :: c30_5)) c30_11
noncomputable def c30_13 : AC := .seq (.seq (.its ([.op (some 22) none (.mv (.t 0)), .op (some 23) none (.bin .lss (.t 22) (.c (.int .i64 0)))])) c30_4) c30_12
noncomputable def c30_14 : AC := .seq (.its ([.op (some 20) none (.mv (.t 0)), .op (some 21) none (.conv .u64 (.t 20)), .op (some 6) none (.mv (.t 21))])) c30_13
noncomputable def c30_15 : AC := .seq (.its ([.op (some 5) none (.alloc [.int .u8 0, .int .u8 0, .int .u8 0, .int .u8 0, .int .u8 0, .int .u8 0, .int .u8 0, .int .u8 0, .int .u8 0, .int .u8 0, .int .u8 0, .int .u8 0, .int .u8 0, .int .u8 0, .int .u8 0, .int .u8 0, .int .u8 0, .int .u8 0, .int .u8 0, .int .u8 0, .int .u8 0, .int .u8 0, .int .u8 0, .int .u8 0])])) c30_14
noncomputable def c30_16 : AC := .seq (.seq (.its ([.op (some 12) none (.mv (.t 0)), .op (some 13) none (.bin .leq (.c (.int .i64 0)) (.t 12)), .op (some 14) none (.mv (.t 13)), .op (some 15) (some (14, true)) (.mv (.t 0)), .op (some 16) (some (14, true)) (.bin .lss (.t 15) (.c (.int .i64 100))), .op (some 17) none (.pick (.t 14) (.t 16) (.c (.bool false)))])) c30_2) c30_15
noncomputable def c30_17 : AC := .cond (.t 11) c30_16 .skip
noncomputable def c30_18 : List It := [.op (some 44) none (.mv (.t 50)), .op (some 51) none (.extract 0 (.t 44)), .op (some 52) none (.extract 1 (.t 44)), .op (some 8) none (.mv (.t 51)), .op (some 9) none (.mv (.t 52))]
noncomputable def c30_19 : AC := .seq (.its ([.op (some 53) none (.mv (.t 9)), .op (some 4) none (.mv (.t 53))])) .ret
noncomputable def c30_20 : AC := .seq (.its (.op (some 45) none (.mv (.t 0)) :: .op (some 46) none (.conv .u64 (.t 45)) :: .op (some 47) none (.mv (.t 1)) :: .op (some 48) none (.mv (.t 0)) :: .op (some 49) none (.bin .lss (.t 48) (.c (.int .i64 0))) :: .call (some 50) none (.c (.func (.func n_istrconv_formatBits) [] [])) [.c (.slice none 0 (some 0) 0), .t 46, .t 47, .t 49, .c (.bool false)] :: c30_18)) c30_19
noncomputable def c30_21 : AC := .seq (.seq (.its ([.op (some 10) none (.mv (.t 1)), .op (some 11) none (.bin .eql (.t 10) (.c (.int .i64 10)))])) c30_17) c30_20
noncomputable def c30_22 : AC := .seq (.its ([.op (some 4) none (.mv (.c (.str [])))])) c30_21
noncomputable def i_istrconv_FormatInt : AFunc := ⟨54, [(4, none)], c30_22⟩
theorem rf_istrconv_FormatInt : resF Go.Proofs.Tryz.prog n_istrconv_FormatInt = some i_istrconv_FormatInt := by kernel_rfl
noncomputable def c31_0 : AC := .seq (.its ([.op (some 6) none (.mv (.c (.int .i64 1)))])) .ret
noncomputable def c31_1 : AC := .cond (.t 21) c31_0 .skip
noncomputable def c31_2 : List It := [.op (some 10) none (.mv (.t 29))]
noncomputable def c31_3 : AC := .seq (.its ([.op (some 32) none (.mv (.t 10)), .op (some 6) none (.mv (.t 32))])) .ret
noncomputable def c31_4 : AC := .cond (.t 31) c31_3 .skip
noncomputable def c31_5 : AC := .seq (.its ([.op (some 30) none (.mv (.t 10)), .op (some 31) none (.bin .neq (.t 30) (.c (.int .i64 0)))])) c31_4
noncomputable def c31_6 : AC := .seq (.its (.op (some 26) none (.mv (.t 2)) :: .op (some 27) none (.load (some 3) (.t 8)) :: .op (some 28) none (.load (some 3) (.t 9)) :: .call (some 29) none (.t 26) [.t 27, .t 28] :: c31_2)) c31_5
noncomputable def c31_7 : AC := .seq (.its ([.op (some 22) none (.mv (.t 1)), .op (some 23) none (.mv (.t 7)), .op (some 24) none (.idxS 3 (.t 22) (.t 23)), .op (some 25) none (.load (some 3) (.t 24)), .op (some 9) none (.alloc [.bool false, .str [], .slice none 0 (some 0) 0]), .op none none (.store 3 (.t 9) (.t 25))])) c31_6
noncomputable def c31_8 : AC := .seq (.seq (.its ([.op (some 18) none (.mv (.t 7)), .op (some 19) none (.mv (.t 1)), .op (some 20) none (.len .slice (.t 19)), .op (some 21) none (.bin .geq (.t 18) (.t 20))])) c31_1) c31_7
noncomputable def c31_9 : AC := .seq (.its ([.op (some 15) none (.mv (.t 13)), .op (some 16) none (.idxS 3 (.t 11) (.t 13)), .op (some 17) none (.load (some 3) (.t 16)), .op (some 8) none (.alloc [.bool false, .str [], .slice none 0 (some 0) 0]), .op (some 7) none (.mv (.t 15)), .op none none (.store 3 (.t 8) (.t 17))])) c31_8
noncomputable def c31_10 : AC := .its ([.op (some 33) none (.bin .add (.t 13) (.c (.int .i64 1))), .op (some 13) none (.mv (.t 33))])
noncomputable def c31_11 : AC := .seq (.block 1 c31_9) c31_10
noncomputable def c31_12 : AC := .seq (.cond (.t 14) .skip (.exit 0)) c31_11
noncomputable def c31_13 : AC := .seq (.its ([.op (some 14) none (.bin .lss (.t 13) (.t 12))])) c31_12
noncomputable def c31_14 : AC := .loop c31_13
noncomputable def c31_15 : AC := .block 0 c31_14
noncomputable def c31_16 : AC := .seq (.its ([.op (some 6) none (.mv (.c (.int .i64 (-1))))])) .ret
noncomputable def c31_17 : AC := .cond (.t 38) c31_16 .skip
noncomputable def c31_18 : AC := .seq (.its ([.op (some 6) none (.mv (.c (.int .i64 0)))])) .ret
noncomputable def c31_19 : AC := .seq (.seq (.its ([.op (some 34) none (.mv (.t 0)), .op (some 35) none (.len .slice (.t 34)), .op (some 36) none (.mv (.t 1)), .op (some 37) none (.len .slice (.t 36)), .op (some 38) none (.bin .lss (.t 35) (.t 37))])) c31_17) c31_18
noncomputable def c31_20 : AC := .seq (.seq (.its ([.op (some 11) none (.mv (.t 0)), .op (some 12) none (.len .slice (.t 11)), .op (some 13) none (.mv (.c (.int .i64 0)))])) c31_15) c31_19
noncomputable def c31_21 : AC := .seq (.its ([.op (some 6) none (.mv (.c (.int .i64 0)))])) c31_20
noncomputable def i_slices_CompareFunc_api_Term_api_Term : AFunc := ⟨39, [(6, none)], c31_21⟩
theorem rf_slices_CompareFunc_api_Term_api_Term : resF Go.Proofs.Tryz.prog n_slices_CompareFunc_api_Term_api_Term = some i_slices_CompareFunc_api_Term_api_Term := by kernel_rfl
noncomputable def c32_0 : List It := [.op (some 2) none (.mv (.t 13)), .op (some 3) none (.mv (.c (.str [])))]
noncomputable def c32_1 : AC := .seq (.its (.op (some 9) none (.fieldAddr 1 (.t 1)) :: .op (some 10) none (.load none (.t 9)) :: .op (some 11) none (.fieldAddr 2 (.t 1)) :: .op (some 12) none (.load none (.t 11)) :: .call (some 13) none (.c (.func (.func n_describe_term) [] [])) [.t 10, .t 12] :: c32_0)) .ret
noncomputable def c32_2 : List It := [.op (some 2) none (.mv (.t 19)), .op (some 3) none (.mv (.c (.str [])))]
noncomputable def c32_3 : AC := .seq (.its (.op (some 16) none (.fieldAddr 1 (.t 1)) :: .op (some 17) none (.load none (.t 16)) :: .op (some 18) none (.buildSlice 1 2 [.str [], .str []] [(0, 1, .c (.str [102, 111, 114, 32, 97, 108, 108])), (1, 1, .t 17)]) :: .call (some 19) none (.c (.func (.func n_describe_join) [] [])) [.t 18] :: c32_2)) .ret
noncomputable def c32_4 : List It := [.op (some 2) none (.mv (.t 25)), .op (some 3) none (.mv (.c (.str [])))]
noncomputable def c32_5 : AC := .seq (.its (.op (some 22) none (.fieldAddr 1 (.t 1)) :: .op (some 23) none (.load none (.t 22)) :: .op (some 24) none (.buildSlice 1 2 [.str [], .str []] [(0, 1, .c (.str [102, 111, 114, 32, 115, 111, 109, 101])), (1, 1, .t 23)]) :: .call (some 25) none (.c (.func (.func n_describe_join) [] [])) [.t 24] :: c32_4)) .ret
noncomputable def c32_6 : AC := .cond (.t 20) c32_5 .skip
noncomputable def c32_7 : AC := .seq (.its ([.op (some 21) none (.bin .eql (.t 6) (.c (.int .u8 9))), .op (some 20) none (.mv (.t 21))])) c32_6
noncomputable def c32_8 : AC := .cond (.t 14) c32_3 c32_7
noncomputable def c32_9 : AC := .seq (.its ([.op (some 15) none (.bin .eql (.t 6) (.c (.int .u8 8))), .op (some 14) none (.mv (.t 15))])) c32_8
noncomputable def c32_10 : AC := .cond (.t 7) c32_1 c32_9
noncomputable def c32_11 : AC := .seq (.its ([.op (some 8) none (.bin .eql (.t 6) (.c (.int .u8 1))), .op (some 7) none (.mv (.t 8))])) c32_10
noncomputable def c32_12 : AC := .block 0 c32_11
noncomputable def c32_13 : List It := [.op (some 4) none (.mv (.t 28))]
noncomputable def c32_14 : List It := .op (some 27) none (.mkFunc (.func n_describe_headS1) [] [.t 1]) :: .call (some 28) none (.c (.func (.func n_slices_IndexFunc_describe_pattern) [] [])) [.t 26, .t 27] :: c32_13
noncomputable def c32_15 : List It := [.again 33 none (.load none (.t 32)), .op (some 36) none (.idxS 3 (.t 34) (.t 35)), .op (some 37) none (.fieldAddr 2 (.t 36)), .op (some 38) none (.load none (.t 37)), .op (some 2) none (.mv (.t 33)), .again 38 none (.load none (.t 37)), .op (some 3) none (.mv (.t 38))]
noncomputable def c32_16 : List It := .op (some 31) none (.idxS 3 (.t 29) (.t 30)) :: .op (some 32) none (.fieldAddr 1 (.t 31)) :: .op (some 33) none (.load none (.t 32)) :: .call (some 34) none (.c (.func (.func n_describe_patterns) [] [])) [] :: c32_15
noncomputable def c32_17 : AC := .seq (.its (.op (some 30) none (.mv (.t 4)) :: .op (some 35) none (.mv (.t 4)) :: .call (some 29) none (.c (.func (.func n_describe_patterns) [] [])) [] :: c32_16)) .ret
noncomputable def c32_18 : AC := .seq (.its (.call (some 26) none (.c (.func (.func n_describe_patterns) [] [])) [] :: c32_14)) c32_17
noncomputable def c32_19 : AC := .seq (.seq (.its ([.op (some 5) none (.fieldAddr 0 (.t 1)), .op (some 6) none (.load none (.t 5))])) c32_12) c32_18
noncomputable def c32_20 : AC := .seq (.its ([.op (some 1) none (.box (.t 0)), .op (some 2) none (.mv (.c (.str []))), .op (some 3) none (.mv (.c (.str [])))])) c32_19
noncomputable def i_describe_head : AFunc := ⟨39, [(2, none), (3, none)], c32_20⟩
theorem rf_describe_head : resF Go.Proofs.Tryz.prog n_describe_head = some i_describe_head := by kernel_rfl
noncomputable def c33_0 : List It := [.op (some 22) (some (15, false)) (.pick (.t 18) (.t 21) (.c (.bool false))), .op (some 23) (some (11, true)) (.pick (.t 15) (.c (.bool true)) (.t 22)), .op (some 24) none (.pick (.t 11) (.t 23) (.c (.bool false))), .op (some 4) none (.mv (.t 24))]
noncomputable def c33_1 : List It := .op (some 15) (some (11, true)) (.mv (.t 14)) :: .op (some 16) (some (15, false)) (.load none (.t 3)) :: .op (some 17) (some (15, false)) (.bin .eql (.t 16) (.c (.int .i64 1))) :: .op (some 18) (some (15, false)) (.mv (.t 17)) :: .op (some 19) (some (18, true)) (.fieldAddr 1 (.t 2)) :: .op (some 20) (some (18, true)) (.load none (.t 19)) :: .call (some 21) (some (18, true)) (.c (.func (.func n_syntax_ofTerms) [] [])) [.t 20] :: c33_0
noncomputable def c33_2 : AC := .seq (.its (.op (some 7) none (.fieldAddr 2 (.t 2)) :: .op (some 8) none (.load none (.t 7)) :: .op (some 9) none (.len .slice (.t 8)) :: .op (some 10) none (.bin .eql (.t 9) (.c (.int .i64 0))) :: .op (some 11) none (.mv (.t 10)) :: .op (some 12) (some (11, true)) (.fieldAddr 1 (.t 2)) :: .op (some 13) (some (11, true)) (.load none (.t 12)) :: .call (some 14) (some (11, true)) (.c (.func (.func n_syntax_Variable) [] [])) [.t 13] :: c33_1)) .ret
noncomputable def c33_3 : AC := .cond (.t 6) c33_2 .skip
noncomputable def c33_4 : List It := [.op (some 39) (some (34, true)) (.un .not (.t 38)), .op (some 40) none (.pick (.t 34) (.t 39) (.c (.bool false))), .op (some 4) none (.mv (.t 40))]
noncomputable def c33_5 : List It := .op (some 28) none (.mv (.t 27)) :: .op (some 29) (some (28, true)) (.fieldAddr 2 (.t 2)) :: .op (some 30) (some (28, true)) (.load none (.t 29)) :: .op (some 31) (some (28, true)) (.len .slice (.t 30)) :: .op (some 32) (some (28, true)) (.bin .leq (.t 31) (.c (.int .i64 4))) :: .op (some 33) none (.pick (.t 28) (.t 32) (.c (.bool false))) :: .op (some 34) none (.mv (.t 33)) :: .op (some 35) (some (34, true)) (.fieldAddr 2 (.t 2)) :: .op (some 36) (some (34, true)) (.load none (.t 35)) :: .op (some 37) (some (34, true)) (.mkFunc (.func n_syntax_termS1) [] [.t 3]) :: .call (some 38) (some (34, true)) (.c (.func (.func n_slices_ContainsFunc_api_Term) [] [])) [.t 36, .t 37] :: c33_4
noncomputable def c33_6 : AC := .seq (.its (.op (some 25) none (.fieldAddr 1 (.t 2)) :: .op (some 26) none (.load none (.t 25)) :: .call (some 27) none (.c (.func (.func n_syntax_Function) [] [])) [.t 26] :: c33_5)) .ret
noncomputable def c33_7 : AC := .seq (.seq (.its ([.op (some 5) none (.fieldAddr 0 (.t 2)), .op (some 6) none (.load none (.t 5))])) c33_3) c33_6
noncomputable def c33_8 : AC := .seq (.its ([.op (some 2) none (.box (.t 0)), .op (some 3) none (.box (.t 1)), .op (some 4) none (.mv (.c (.bool false)))])) c33_7
noncomputable def i_syntax_term : AFunc := ⟨41, [(4, none)], c33_8⟩
theorem rf_syntax_term : resF Go.Proofs.Tryz.prog n_syntax_term = some i_syntax_term := by kernel_rfl
noncomputable def c34_0 : List It := [.op (some 5) none (.mv (.t 8))]
noncomputable def c34_1 : List It := [.op (some 6) none (.mv (.t 10))]
noncomputable def c34_2 : AC := .seq (.its ([.op (some 4) none (.mv (.c (.int .i64 0)))])) .ret
noncomputable def c34_3 : AC := .cond (.t 12) c34_2 .skip
noncomputable def c34_4 : AC := .seq (.its ([.op (some 4) none (.mv (.c (.int .i64 (-1))))])) .ret
noncomputable def c34_5 : AC := .seq (.seq (.its ([.op (some 12) none (.mv (.t 6))])) c34_3) c34_4
noncomputable def c34_6 : AC := .cond (.t 11) c34_5 .skip
noncomputable def c34_7 : AC := .seq (.its ([.op (some 4) none (.mv (.c (.int .i64 1)))])) .ret
noncomputable def c34_8 : AC := .cond (.t 13) c34_7 .skip
noncomputable def c34_9 : AC := .seq (.its ([.op (some 4) none (.mv (.c (.int .i64 (-1))))])) .ret
noncomputable def c34_10 : AC := .cond (.t 16) c34_9 .skip
noncomputable def c34_11 : AC := .seq (.its ([.op (some 4) none (.mv (.c (.int .i64 1)))])) .ret
noncomputable def c34_12 : AC := .cond (.t 19) c34_11 .skip
noncomputable def c34_13 : AC := .seq (.its ([.op (some 4) none (.mv (.c (.int .i64 0)))])) .ret
noncomputable def c34_14 : AC := .seq (.seq (.its ([.op (some 17) none (.mv (.t 0)), .op (some 18) none (.mv (.t 1)), .op (some 19) none (.bin .gtr (.t 17) (.t 18))])) c34_12) c34_13
noncomputable def c34_15 : AC := .seq (.seq (.its ([.op (some 14) none (.mv (.t 0)), .op (some 15) none (.mv (.t 1)), .op (some 16) none (.bin .lss (.t 14) (.t 15))])) c34_10) c34_14
noncomputable def c34_16 : AC := .seq (.seq (.its ([.op (some 13) none (.mv (.t 6))])) c34_8) c34_15
noncomputable def c34_17 : AC := .seq (.seq (.its ([.op (some 11) none (.mv (.t 5))])) c34_6) c34_16
noncomputable def c34_18 : AC := .seq (.its (.op (some 9) none (.mv (.t 1)) :: .call (some 10) none (.c (.func (.func n_cmp_isNaN_uint8) [] [])) [.t 9] :: c34_1)) c34_17
noncomputable def c34_19 : AC := .seq (.its (.op (some 7) none (.mv (.t 0)) :: .call (some 8) none (.c (.func (.func n_cmp_isNaN_uint8) [] [])) [.t 7] :: c34_0)) c34_18
noncomputable def c34_20 : AC := .seq (.its ([.op (some 4) none (.mv (.c (.int .i64 0)))])) c34_19
noncomputable def i_cmp_Compare_uint8 : AFunc := ⟨20, [(4, none)], c34_20⟩
theorem rf_cmp_Compare_uint8 : resF Go.Proofs.Tryz.prog n_cmp_Compare_uint8 = some i_cmp_Compare_uint8 := by kernel_rfl
noncomputable def c35_0 : List It := [.op (some 10) none (.un .not (.t 9))]
noncomputable def c35_1 : AC := .seq (.its ([.op (some 4) none (.mv (.c (.bool false)))])) .ret
noncomputable def c35_2 : AC := .cond (.t 10) c35_1 .skip
noncomputable def c35_3 : List It := [.op (some 21) none (.un .not (.t 20))]
noncomputable def c35_4 : AC := .seq (.its ([.op (some 4) none (.mv (.c (.bool false)))])) .ret
noncomputable def c35_5 : AC := .cond (.t 21) c35_4 .skip
noncomputable def c35_6 : AC := .seq (.its (.op (some 18) none (.load (some 4) (.t 6)) :: .op (some 19) none (.mv (.t 1)) :: .call (some 20) none (.c (.func (.func n_syntax_every) [] [])) [.t 18, .t 19] :: c35_3)) c35_5
noncomputable def c35_7 : AC := .seq (.its ([.op (some 16) none (.idxS 4 (.t 12) (.t 14)), .op (some 17) none (.load (some 4) (.t 16)), .op (some 6) none (.alloc [.int .u8 0, .str [], .slice none 0 (some 0) 0, .slice none 0 (some 0) 0]), .op none none (.store 4 (.t 6) (.t 17))])) c35_6
noncomputable def c35_8 : AC := .its ([.op (some 22) none (.bin .add (.t 14) (.c (.int .i64 1))), .op (some 14) none (.mv (.t 22))])
noncomputable def c35_9 : AC := .seq (.block 1 c35_7) c35_8
noncomputable def c35_10 : AC := .seq (.cond (.t 15) .skip (.exit 0)) c35_9
noncomputable def c35_11 : AC := .seq (.its ([.op (some 15) none (.bin .lss (.t 14) (.t 13))])) c35_10
noncomputable def c35_12 : AC := .loop c35_11
noncomputable def c35_13 : AC := .block 0 c35_12
noncomputable def c35_14 : AC := .seq (.its ([.op (some 4) none (.mv (.c (.bool true)))])) .ret
noncomputable def c35_15 : AC := .seq (.seq (.its ([.op (some 11) none (.fieldAddr 3 (.t 2)), .op (some 12) none (.load none (.t 11)), .op (some 13) none (.len .slice (.t 12)), .op (some 14) none (.mv (.c (.int .i64 0)))])) c35_13) c35_14
noncomputable def c35_16 : AC := .seq (.seq (.its (.op (some 7) none (.mv (.t 1)) :: .op (some 8) none (.load (some 4) (.t 2)) :: .call (some 9) none (.t 7) [.t 8] :: c35_0)) c35_2) c35_15
noncomputable def c35_17 : AC := .seq (.its ([.op (some 2) none (.box (.t 0)), .op (some 4) none (.mv (.c (.bool false)))])) c35_16
noncomputable def i_syntax_every : AFunc := ⟨23, [(4, none)], c35_17⟩
theorem rf_syntax_every : resF Go.Proofs.Tryz.prog n_syntax_every = some i_syntax_every := by kernel_rfl
noncomputable def c36_0 : List It := [.op (some 26) none (.pick (.t 22) (.c (.bool true)) (.t 25))]
noncomputable def c36_1 : List It := .op (some 20) (some (15, false)) (.un .not (.t 19)) :: .op (some 21) none (.pick (.t 15) (.c (.bool true)) (.t 20)) :: .op (some 22) none (.mv (.t 21)) :: .op (some 23) (some (22, false)) (.buildSlice 1 6 [.str [], .str [], .str [], .str [], .str [], .str []] [(0, 1, .c (.str [97, 108, 108])), (1, 1, .c (.str [115, 111, 109, 101])), (2, 1, .c (.str [102, 97, 108, 115, 101])), (3, 1, .c (.str [110, 101, 120, 116])), (4, 1, .c (.str [97, 108, 119, 97, 121, 115])), (5, 1, .c (.str [117, 110, 116, 105, 108]))]) :: .op (some 24) (some (22, false)) (.mv (.t 0)) :: .call (some 25) (some (22, false)) (.c (.func (.func n_slices_Contains_string) [] [])) [.t 23, .t 24] :: c36_0
noncomputable def c36_2 : AC := .seq (.its ([.op (some 6) none (.mv (.c (.bool false)))])) .ret
noncomputable def c36_3 : AC := .cond (.t 26) c36_2 .skip
noncomputable def c36_4 : List It := [.op (some 32) none (.un .not (.t 31)), .op (some 6) none (.mv (.t 32))]
noncomputable def c36_5 : AC := .seq (.its (.op (some 27) none (.mv (.t 0)) :: .op (some 28) none (.sliceStr (.t 27) (some (.c (.int .i64 1))) none) :: .op (some 29) none (.strBytes (.t 28)) :: .op (some 30) none (.mkFunc (.func n_syntax_nameS1) [] [.t 5]) :: .call (some 31) none (.c (.func (.func n_slices_ContainsFunc_byte) [] [])) [.t 29, .t 30] :: c36_4)) .ret
noncomputable def c36_6 : AC := .seq (.seq (.its (.op (some 7) none (.mv (.t 0)) :: .op (some 8) none (.len .str (.t 7)) :: .op (some 9) none (.bin .lss (.t 8) (.c (.int .i64 1))) :: .op (some 10) none (.mv (.t 9)) :: .op (some 11) (some (10, false)) (.mv (.t 0)) :: .op (some 12) (some (10, false)) (.len .str (.t 11)) :: .op (some 13) (some (10, false)) (.bin .gtr (.t 12) (.c (.int .i64 16))) :: .op (some 14) none (.pick (.t 10) (.c (.bool true)) (.t 13)) :: .op (some 15) none (.mv (.t 14)) :: .op (some 16) (some (15, false)) (.mv (.t 1)) :: .op (some 17) (some (15, false)) (.mv (.t 0)) :: .op (some 18) (some (15, false)) (.idxStr (.t 17) (.c (.int .i64 0))) :: .call (some 19) (some (15, false)) (.t 16) [.t 18] :: c36_1)) c36_3) c36_5
noncomputable def c36_7 : AC := .seq (.its ([.op (some 5) none (.box (.t 2)), .op (some 6) none (.mv (.c (.bool false)))])) c36_6
noncomputable def i_syntax_name : AFunc := ⟨33, [(6, none)], c36_7⟩
theorem rf_syntax_name : resF Go.Proofs.Tryz.prog n_syntax_name = some i_syntax_name := by kernel_rfl
noncomputable def c37_0 : List It := [.op (some 37) none (.pick (.t 31) (.t 36) (.c (.bool false))), .op (some 4) none (.mv (.t 37))]
noncomputable def c37_1 : List It := .op (some 30) none (.pick (.t 24) (.t 29) (.c (.bool false))) :: .op (some 31) none (.mv (.t 30)) :: .op (some 32) (some (31, true)) (.fieldAddr 7 (.t 2)) :: .op (some 33) (some (31, true)) (.load none (.t 32)) :: .op (some 34) (some (31, true)) (.fieldAddr 7 (.t 3)) :: .op (some 35) (some (31, true)) (.load none (.t 34)) :: .call (some 36) (some (31, true)) (.c (.func (.func n_kit_SameMarks) [] [])) [.t 33, .t 35] :: c37_0
noncomputable def c37_2 : List It := .op (some 16) none (.pick (.t 10) (.t 15) (.c (.bool false))) :: .op (some 17) none (.mv (.t 16)) :: .op (some 18) (some (17, true)) (.fieldAddr 5 (.t 2)) :: .op (some 19) (some (17, true)) (.load none (.t 18)) :: .op (some 20) (some (17, true)) (.fieldAddr 5 (.t 3)) :: .op (some 21) (some (17, true)) (.load none (.t 20)) :: .op (some 22) (some (17, true)) (.bin .eql (.t 19) (.t 21)) :: .op (some 23) none (.pick (.t 17) (.t 22) (.c (.bool false))) :: .op (some 24) none (.mv (.t 23)) :: .op (some 25) (some (24, true)) (.fieldAddr 6 (.t 2)) :: .op (some 26) (some (24, true)) (.load none (.t 25)) :: .op (some 27) (some (24, true)) (.fieldAddr 6 (.t 3)) :: .op (some 28) (some (24, true)) (.load none (.t 27)) :: .call (some 29) (some (24, true)) (.c (.func (.func n_kit_SameProofs) [] [])) [.t 26, .t 28] :: c37_1
noncomputable def c37_3 : AC := .seq (.its (.op (some 5) none (.fieldAddr 0 (.t 2)) :: .op (some 6) none (.load none (.t 5)) :: .op (some 7) none (.fieldAddr 0 (.t 3)) :: .op (some 8) none (.load none (.t 7)) :: .op (some 9) none (.bin .eql (.t 6) (.t 8)) :: .op (some 10) none (.mv (.t 9)) :: .op (some 11) (some (10, true)) (.fieldAddr 1 (.t 2)) :: .op (some 12) (some (10, true)) (.load (some 4) (.t 11)) :: .op (some 13) (some (10, true)) (.fieldAddr 1 (.t 3)) :: .op (some 14) (some (10, true)) (.load (some 4) (.t 13)) :: .call (some 15) (some (10, true)) (.c (.func (.func n_kit_SameForm) [] [])) [.t 12, .t 14] :: c37_2)) .ret
noncomputable def c37_4 : AC := .seq (.its ([.op (some 2) none (.box (.t 0)), .op (some 3) none (.box (.t 1)), .op (some 4) none (.mv (.c (.bool false)))])) c37_3
noncomputable def i_kit_SameProof : AFunc := ⟨38, [(4, none)], c37_4⟩
theorem rf_kit_SameProof : resF Go.Proofs.Tryz.prog n_kit_SameProof = some i_kit_SameProof := by kernel_rfl
noncomputable def i_syntax_rows : AFunc := ⟨24, [(0, some (some 68))], qa [qo 0 (.alloc [.nilFunc, qi 0, qi 0, qi 0, .nilFunc, qi 0, qi 0, qi 0, .nilFunc, qi 0, qi 0, qi 0, .nilFunc, qi 0, qi 0, qi 0, .nilFunc, qi 0, qi 0, qi 0, .nilFunc, qi 0, qi 0, qi 0, .nilFunc, qi 0, qi 0, qi 0, .nilFunc, qi 0, qi 0, qi 0, .nilFunc, qi 0, qi 0, qi 0, .nilFunc, qi 0, qi 0, qi 0, .nilFunc, qi 0, qi 0, qi 0, .nilFunc, qi 0, qi 0, qi 0, .nilFunc, qi 0, qi 0, qi 0, .nilFunc, qi 0, qi 0, qi 0, .nilFunc, qi 0, qi 0, qi 0, .nilFunc, qi 0, qi 0, qi 0, .nilFunc, qi 0, qi 0, qi 0])] (qa [qo 4 (.build [.nilFunc, qi 0, qi 0, qi 0] [(0, 1, .c (qf 126)), (1, 1, qx 0), (2, 1, qx 1), (3, 1, qx 0)]), qo 5 (.build [.nilFunc, qi 0, qi 0, qi 0] [(0, 1, .c (qf 126)), (1, 1, qx 0), (2, 1, qx 2), (3, 1, qx 0)]), qo 6 (.build [.nilFunc, qi 0, qi 0, qi 0] [(0, 1, .c (qf 78)), (1, 1, qx 0), (2, 1, qx 1), (3, 1, qx 0)]), qo 1 (.alloc [.nilFunc, qi 0, qi 0, qi 0]), qo 2 (.alloc [.nilFunc, qi 0, qi 0, qi 0]), qo 3 (.alloc [.nilFunc, qi 0, qi 0, qi 0]), qs 4 1 4, qs 4 2 5, qs 4 3 6] (qa [qo 7 (.build [.nilFunc, qi 0, qi 0, qi 0] [(0, 1, .c (qf 81)), (1, 1, qx 4), (2, 1, qx 0), (3, 1, qx 0)]), qo 8 (.build [.nilFunc, qi 0, qi 0, qi 0] [(0, 1, .c (qf 126)), (1, 1, qx 0), (2, 1, qx 0), (3, 1, qx 0)]), qn 9 4 1, qn 10 4 1, qn 11 4 1, qn 12 4 1, qn 13 4 1, qn 14 4 2, qn 15 4 2, qn 16 4 2, qn 17 4 2, qn 18 4 2, qn 19 4 3, qn 20 4 3, qo 21 (.build [.nilFunc, qi 0, qi 0, qi 0] [(0, 1, .c (qf 127)), (1, 1, qx 0), (2, 1, qx 0), (3, 1, qx 1)]), qo 22 (.build [.nilFunc, qi 0, qi 0, qi 0] [(0, 1, .c (qf 127)), (1, 1, qx 2), (2, 1, qx 0), (3, 1, qx 1)]), qo 23 (.build [.nilFunc, qi 0, qi 0, qi 0, .nilFunc, qi 0, qi 0, qi 0, .nilFunc, qi 0, qi 0, qi 0, .nilFunc, qi 0, qi 0, qi 0, .nilFunc, qi 0, qi 0, qi 0, .nilFunc, qi 0, qi 0, qi 0, .nilFunc, qi 0, qi 0, qi 0, .nilFunc, qi 0, qi 0, qi 0, .nilFunc, qi 0, qi 0, qi 0, .nilFunc, qi 0, qi 0, qi 0, .nilFunc, qi 0, qi 0, qi 0, .nilFunc, qi 0, qi 0, qi 0, .nilFunc, qi 0, qi 0, qi 0, .nilFunc, qi 0, qi 0, qi 0, .nilFunc, qi 0, qi 0, qi 0, .nilFunc, qi 0, qi 0, qi 0, .nilFunc, qi 0, qi 0, qi 0] [(4, 4, .t 7), (8, 4, .t 8), (12, 4, .t 9), (40, 4, .t 10), (44, 4, .t 11), (48, 4, .t 12), (52, 4, .t 13), (16, 4, .t 14), (20, 4, .t 15), (24, 4, .t 16), (28, 4, .t 17), (56, 4, .t 18), (32, 4, .t 19), (36, 4, .t 20), (60, 4, .t 21), (64, 4, .t 22)]), qs 68 0 23] .ret))⟩
theorem rf_syntax_rows : resF Go.Proofs.Tryz.prog 91 = some i_syntax_rows := by kernel_rfl
noncomputable def c38_0 : AC := .seq (.its ([.op (some 17) none (.mv (.t 5)), .op (some 4) none (.mv (.t 17))])) .ret
noncomputable def c38_1 : AC := .cond (.t 16) c38_0 .skip
noncomputable def c38_2 : AC := .seq (.its ([.op (some 11) none (.mv (.t 1)), .op (some 12) none (.mv (.t 0)), .op (some 13) none (.mv (.t 5)), .op (some 14) none (.idxS 4 (.t 12) (.t 13)), .op (some 15) none (.load (some 4) (.t 14)), .call (some 16) none (.t 11) [.t 15]])) c38_1
noncomputable def c38_3 : AC := .seq (.its ([.op (some 10) none (.mv (.t 8)), .op (some 5) none (.mv (.t 10))])) c38_2
noncomputable def c38_4 : AC := .its ([.op (some 18) none (.bin .add (.t 8) (.c (.int .i64 1))), .op (some 8) none (.mv (.t 18))])
noncomputable def c38_5 : AC := .seq (.block 1 c38_3) c38_4
noncomputable def c38_6 : AC := .seq (.cond (.t 9) .skip (.exit 0)) c38_5
noncomputable def c38_7 : AC := .seq (.its ([.op (some 9) none (.bin .lss (.t 8) (.t 7))])) c38_6
noncomputable def c38_8 : AC := .loop c38_7
noncomputable def c38_9 : AC := .block 0 c38_8
noncomputable def c38_10 : AC := .seq (.its ([.op (some 4) none (.mv (.c (.int .i64 (-1))))])) .ret
noncomputable def c38_11 : AC := .seq (.seq (.its ([.op (some 6) none (.mv (.t 0)), .op (some 7) none (.len .slice (.t 6)), .op (some 8) none (.mv (.c (.int .i64 0)))])) c38_9) c38_10
noncomputable def c38_12 : AC := .seq (.its ([.op (some 4) none (.mv (.c (.int .i64 0)))])) c38_11
noncomputable def i_slices_IndexFunc_api_Form : AFunc := ⟨19, [(4, none)], c38_12⟩
theorem rf_slices_IndexFunc_api_Form : resF Go.Proofs.Tryz.prog n_slices_IndexFunc_api_Form = some i_slices_IndexFunc_api_Form := by kernel_rfl
noncomputable def c39_0 : AC := .seq (.its ([.op (some 17) none (.mv (.t 5)), .op (some 4) none (.mv (.t 17))])) .ret
noncomputable def c39_1 : AC := .cond (.t 16) c39_0 .skip
noncomputable def c39_2 : AC := .seq (.its ([.op (some 11) none (.mv (.t 1)), .op (some 12) none (.mv (.t 0)), .op (some 13) none (.mv (.t 5)), .op (some 14) none (.idxS 1 (.t 12) (.t 13)), .op (some 15) none (.load none (.t 14)), .call (some 16) none (.t 11) [.t 15]])) c39_1
noncomputable def c39_3 : AC := .seq (.its ([.op (some 10) none (.mv (.t 8)), .op (some 5) none (.mv (.t 10))])) c39_2
noncomputable def c39_4 : AC := .its ([.op (some 18) none (.bin .add (.t 8) (.c (.int .i64 1))), .op (some 8) none (.mv (.t 18))])
noncomputable def c39_5 : AC := .seq (.block 1 c39_3) c39_4
noncomputable def c39_6 : AC := .seq (.cond (.t 9) .skip (.exit 0)) c39_5
noncomputable def c39_7 : AC := .seq (.its ([.op (some 9) none (.bin .lss (.t 8) (.t 7))])) c39_6
noncomputable def c39_8 : AC := .loop c39_7
noncomputable def c39_9 : AC := .block 0 c39_8
noncomputable def c39_10 : AC := .seq (.its ([.op (some 4) none (.mv (.c (.int .i64 (-1))))])) .ret
noncomputable def c39_11 : AC := .seq (.seq (.its ([.op (some 6) none (.mv (.t 0)), .op (some 7) none (.len .slice (.t 6)), .op (some 8) none (.mv (.c (.int .i64 0)))])) c39_9) c39_10
noncomputable def c39_12 : AC := .seq (.its ([.op (some 4) none (.mv (.c (.int .i64 0)))])) c39_11
noncomputable def i_slices_IndexFunc_int : AFunc := ⟨19, [(4, none)], c39_12⟩
theorem rf_slices_IndexFunc_int : resF Go.Proofs.Tryz.prog n_slices_IndexFunc_int = some i_slices_IndexFunc_int := by kernel_rfl
noncomputable def c40_0 : List It := [.op (some 30) none (.pick (.t 24) (.t 29) (.c (.bool false))), .op (some 4) none (.mv (.t 30))]
noncomputable def c40_1 : List It := .op (some 23) none (.pick (.t 17) (.t 22) (.c (.bool false))) :: .op (some 24) none (.mv (.t 23)) :: .op (some 25) (some (24, true)) (.fieldAddr 3 (.t 2)) :: .op (some 26) (some (24, true)) (.load none (.t 25)) :: .op (some 27) (some (24, true)) (.fieldAddr 3 (.t 3)) :: .op (some 28) (some (24, true)) (.load none (.t 27)) :: .call (some 29) (some (24, true)) (.c (.func (.func n_kit_SameForms) [] [])) [.t 26, .t 28] :: c40_0
noncomputable def c40_2 : AC := .seq (.its (.op (some 5) none (.fieldAddr 0 (.t 2)) :: .op (some 6) none (.load none (.t 5)) :: .op (some 7) none (.fieldAddr 0 (.t 3)) :: .op (some 8) none (.load none (.t 7)) :: .op (some 9) none (.bin .eql (.t 6) (.t 8)) :: .op (some 10) none (.mv (.t 9)) :: .op (some 11) (some (10, true)) (.fieldAddr 1 (.t 2)) :: .op (some 12) (some (10, true)) (.load none (.t 11)) :: .op (some 13) (some (10, true)) (.fieldAddr 1 (.t 3)) :: .op (some 14) (some (10, true)) (.load none (.t 13)) :: .op (some 15) (some (10, true)) (.bin .eql (.t 12) (.t 14)) :: .op (some 16) none (.pick (.t 10) (.t 15) (.c (.bool false))) :: .op (some 17) none (.mv (.t 16)) :: .op (some 18) (some (17, true)) (.fieldAddr 2 (.t 2)) :: .op (some 19) (some (17, true)) (.load none (.t 18)) :: .op (some 20) (some (17, true)) (.fieldAddr 2 (.t 3)) :: .op (some 21) (some (17, true)) (.load none (.t 20)) :: .call (some 22) (some (17, true)) (.c (.func (.func n_kit_SameTerms) [] [])) [.t 19, .t 21] :: c40_1)) .ret
noncomputable def c40_3 : AC := .seq (.its ([.op (some 2) none (.box (.t 0)), .op (some 3) none (.box (.t 1)), .op (some 4) none (.mv (.c (.bool false)))])) c40_2
noncomputable def i_kit_SameForm : AFunc := ⟨31, [(4, none)], c40_3⟩
theorem rf_kit_SameForm : resF Go.Proofs.Tryz.prog n_kit_SameForm = some i_kit_SameForm := by kernel_rfl
noncomputable def c41_0 : List It := [.op (some 8) none (.un .not (.t 7))]
noncomputable def c41_1 : AC := .seq (.its ([.op (some 2) none (.mv (.c (.slice none 0 (some 0) 0))), .op (some 3) none (.mv (.c (.int .i64 2)))])) .ret
noncomputable def c41_2 : AC := .cond (.t 8) c41_1 .skip
noncomputable def c41_3 : AC := .seq (.its ([.op (some 13) none (.load none (.t 4)), .op (some 2) none (.mv (.t 13)), .op (some 3) none (.mv (.c (.int .i64 0)))])) .ret
noncomputable def c41_4 : AC := .seq (.its ([.op (some 10) none (.load none (.t 5)), .op (some 11) none (.load (some 4) (.t 1)), .call (some 12) none (.t 10) [.t 11, .c (.int .i64 0)]])) c41_3
noncomputable def c41_5 : AC := .seq (.its ([.op (some 9) none (.mkFunc (.func n_describe_OutlineS1) [] [.t 4, .t 5]), .op none none (.store 1 (.t 5) (.t 9))])) c41_4
noncomputable def c41_6 : AC := .seq (.its ([.op (some 5) none (.alloc [.nilFunc])])) c41_5
noncomputable def c41_7 : AC := .seq (.its ([.op (some 4) none (.alloc [.slice none 0 (some 0) 0])])) c41_6
noncomputable def c41_8 : AC := .seq (.seq (.its (.op (some 6) none (.load (some 4) (.t 1)) :: .call (some 7) none (.c (.func (.func n_syntax_Right) [] [])) [.t 6] :: c41_0)) c41_2) c41_7
noncomputable def c41_9 : AC := .seq (.its ([.op (some 1) none (.box (.t 0)), .op (some 2) none (.mv (.c (.slice none 0 (some 0) 0))), .op (some 3) none (.mv (.c (.int .i64 0)))])) c41_8
noncomputable def i_describe_Outline : AFunc := ⟨14, [(2, none), (3, none)], c41_9⟩
theorem rf_describe_Outline : resF Go.Proofs.Tryz.prog n_describe_Outline = some i_describe_Outline := by kernel_rfl
noncomputable def c42_0 : List It := [.op (some 6) none (.mv (.t 16))]
noncomputable def c42_1 : AC := .seq (.its (.op (some 12) none (.mv (.t 0)) :: .op (some 13) none (.len .slice (.t 12)) :: .op (some 14) none (.mv (.t 1)) :: .op (some 15) none (.len .slice (.t 14)) :: .call (some 16) none (.c (.func (.func n_cmp_Compare_int) [] [])) [.t 13, .t 15] :: c42_0)) .ret
noncomputable def c42_2 : AC := .cond (.t 11) c42_1 .skip
noncomputable def c42_3 : List It := [.op (some 6) none (.mv (.t 20))]
noncomputable def c42_4 : AC := .seq (.its (.op (some 17) none (.mv (.t 0)) :: .op (some 18) none (.mv (.t 1)) :: .op (some 19) none (.mv (.t 2)) :: .call (some 20) none (.c (.func (.func n_slices_CompareFunc_api_Term_api_Term) [] [])) [.t 17, .t 18, .t 19] :: c42_3)) .ret
noncomputable def c42_5 : AC := .seq (.seq (.its ([.op (some 7) none (.mv (.t 0)), .op (some 8) none (.len .slice (.t 7)), .op (some 9) none (.mv (.t 1)), .op (some 10) none (.len .slice (.t 9)), .op (some 11) none (.bin .neq (.t 8) (.t 10))])) c42_2) c42_4
noncomputable def c42_6 : AC := .seq (.its ([.op (some 6) none (.mv (.c (.int .i64 0)))])) c42_5
noncomputable def i_syntax_lists_api_Term : AFunc := ⟨21, [(6, none)], c42_6⟩
theorem rf_syntax_lists_api_Term : resF Go.Proofs.Tryz.prog n_syntax_lists_api_Term = some i_syntax_lists_api_Term := by kernel_rfl
noncomputable def i_describe_begin : AFunc := ⟨33, [(2, some (some 4)), (3, none)], qa [qo 1 (.box (.t 0)), qo 2 (.alloc [.nilFunc, .nilFunc, .nilFunc, .map none]), qk 3 .nilFunc] (qa [qo 4 (.alloc [qi 0]), qo 5 (.alloc [.bool false]), .op none none (.store 1 (.t 4) (qx 0)), .op none none (.store 1 (.t 5) (.c (.bool false)))] (qa [qo 9 .mkMap, qo 10 (.build [.nilFunc, .nilFunc, .nilFunc, .map none] [(3, 1, .t 9)]), qo 6 (.alloc [.nilFunc, .nilFunc, .nilFunc, .map none]), qs 4 6 10] (qa [qo 11 (.mkFunc (.func 70) [] [.t 5, .t 4, .t 1]), qo 12 (.fieldAddr 1 (.t 6)), qs 1 12 11] (qa [qo 13 (.mkFunc (.func 71) [] [.t 5]), qo 14 (.fieldAddr 2 (.t 6)), qs 1 14 13] (qa [qo 15 (.mkFunc (.func 72) [] [.t 5, .t 4, .t 1]), qo 16 (.fieldAddr 0 (.t 6)), qs 1 16 15] (.seq (qa [qc 17 73 [], qo 18 (.len .slice (.t 17)), qk 19 (qi 0)] (.block 0 (.loop (qa [qv 20 .lss 19 18] (.seq (.cond (.t 20) .skip (.exit 0)) (.seq (.block 1 (qa [qo 21 (.idxS 3 (.t 17) (.t 19)), qn 22 3 21, qo 8 (.alloc [qu 0, .str [], .str []]), qs 3 8 22] (.its [qo 23 (.fieldAddr 3 (.t 6)), ql 24 23, qo 25 (.fieldAddr 1 (.t 8)), ql 26 25, qo 27 (.mkFunc (.func 74) [] [.t 8]), .op none none (.mapSet .str (.t 24) (.t 26) (.t 27))]))) (.its [qb 28 .add (.t 19) (qx 1), qm 19 28]))))))) (qa [qo 29 (.fieldAddr 3 (.t 6)), ql 30 29, .op none none (.mapSet .str (.t 30) (qy [102, 111, 114]) (.c (qf 76)))] (qa [qn 31 4 6, qo 32 (.mkFunc (.func 79) [] [.t 4]), qs 4 2 31, qm 3 32] .ret))))))))⟩
theorem rf_describe_begin : resF Go.Proofs.Tryz.prog 43 = some i_describe_begin := by kernel_rfl
noncomputable def i_describe_reader_args : AFunc := ⟨31, [(2, none)], qa [qo 1 (.box (.t 0)), qk 2 (.slice none 0 (some 0) 0)] (qa [qk 3 (.slice none 0 (some 0) 0)] (.seq (qa [qo 5 (.fieldAddr 1 (.t 1)), ql 6 5, .call (some 7) none (.t 6) [qy [111, 102]], qo 8 (.un .not (.t 7))] (.cond (.t 8) (qa [qk 2 (.slice none 0 (some 0) 0)] .ret) .skip)) (.seq (qa [qk 4 (.str [111, 102])] (.block 0 (.loop (.seq (qa [qm 9 4, qb 10 .neq (.t 9) (qy [99, 108, 111, 115, 101]), qm 11 10, qg 12 11 true (.fieldAddr 2 (.t 1)), qg 13 11 true (.load none (.t 12)), .call (some 14) (some (11, true)) (.t 13) [], qg 15 11 true (.un .not (.t 14)), qq 16 11 15] (.cond (.t 16) .skip (.exit 0))) (.block 1 (qa [qn 17 4 1, qm 18 4, qc 19 75 [.t 17, .t 18]] (qa [qm 20 3, qn 21 4 1, qc 22 120 [.t 21], qo 23 (.buildSlice 3 1 [.bool false, .str [], .slice none 0 (some 0) 0] [(0, 3, .t 22)]), qo 24 (.append 3 48 (.t 20) (.t 23)), qm 3 24] (qa [qk 4 (.str [99, 108, 111, 115, 101])] (qa [qo 25 (.fieldAddr 1 (.t 1)), ql 26 25, .call (some 27) none (.t 26) [qy [97, 110, 100]]] (.cond (.t 27) (.its [qk 4 (.str [97, 110, 100])]) .skip)))))))))) (qa [qn 28 4 1, qc 29 75 [.t 28, qy [99, 108, 111, 115, 101]]] (qa [qm 30 3, qm 2 30] .ret)))))⟩
theorem rf_describe_reader_args : resF Go.Proofs.Tryz.prog 82 = some i_describe_reader_args := by kernel_rfl
noncomputable def c43_0 : List It := [.op (some 12) none (.pick (.t 9) (.c (.bool true)) (.t 11)), .op (some 2) none (.mv (.t 12))]
noncomputable def c43_1 : List It := .op (some 8) none (.pick (.t 5) (.c (.bool true)) (.t 7)) :: .op (some 9) none (.mv (.t 8)) :: .op (some 10) (some (9, false)) (.mv (.t 0)) :: .call (some 11) (some (9, false)) (.c (.func (.func n_syntax_digit) [] [])) [.t 10] :: c43_0
noncomputable def c43_2 : List It := .op (some 5) none (.mv (.t 4)) :: .op (some 6) (some (5, false)) (.mv (.t 0)) :: .call (some 7) (some (5, false)) (.c (.func (.func n_syntax_capital) [] [])) [.t 6] :: c43_1
noncomputable def c43_3 : AC := .seq (.its (.op (some 3) none (.mv (.t 0)) :: .call (some 4) none (.c (.func (.func n_syntax_small) [] [])) [.t 3] :: c43_2)) .ret
noncomputable def c43_4 : AC := .seq (.its ([.op (some 2) none (.mv (.c (.bool false)))])) c43_3
noncomputable def i_syntax_letter : AFunc := ⟨13, [(2, none)], c43_4⟩
theorem rf_syntax_letter : resF Go.Proofs.Tryz.prog n_syntax_letter = some i_syntax_letter := by kernel_rfl
noncomputable def i_frame_rising : AFunc := ⟨29, [(2, none)], qa [qk 2 (.bool false)] (.seq (qa [qm 5 0, qo 6 (.len .slice (.t 5)), qk 7 (qi 0)] (.block 0 (.loop (qa [qv 8 .lss 7 6] (.seq (.cond (.t 8) .skip (.exit 0)) (.seq (.block 1 (qa [qm 9 7, qo 10 (.idxS 1 (.t 5) (.t 7)), ql 11 10, qm 3 9, qm 4 11] (qa [qm 12 4, qc 13 81 [.t 12], qo 14 (.un .not (.t 13)), qm 15 14, qh 16 15 false 3, qg 17 15 false (.bin .gtr (.t 16) (qx 0)), qh 18 15 false 17, qh 19 18 true 0, qh 20 18 true 3, qg 21 18 true (.bin .sub (.t 20) (qx 1)), qg 22 18 true (.idxS 1 (.t 19) (.t 21)), qg 23 18 true (.load none (.t 22)), qh 24 18 true 4, qg 25 18 true (.bin .geq (.t 23) (.t 24)), qg 26 15 false (.pick (.t 18) (.t 25) (.c (.bool false))), qp 27 15 26] (.cond (.t 27) (qa [qk 2 (.bool false)] .ret) .skip)))) (.its [qb 28 .add (.t 7) (qx 1), qm 7 28]))))))) (qa [qk 2 (.bool true)] .ret))⟩
theorem rf_frame_rising : resF Go.Proofs.Tryz.prog 244 = some i_frame_rising := by kernel_rfl
noncomputable def i_describe_beginS3 : AFunc := ⟨30, [(5, none)], qa [qk 5 (.str [])] (.seq (qa [ql 6 1, qm 7 6, qg 8 7 false (.load none (.t 2)), qg 9 7 false (.load none (.t 3)), qg 10 7 false (.len .slice (.t 9)), qg 11 7 false (.bin .eql (.t 8) (.t 10)), qp 12 7 11, qm 13 12, qh 14 13 false 0, qg 15 13 false (.load none (.t 3)), qg 16 13 false (.load none (.t 2)), qg 17 13 false (.idxS 1 (.t 15) (.t 16)), qg 18 13 false (.load none (.t 17)), .call (some 19) (some (13, false)) (.t 14) [.t 18], qg 20 13 false (.un .not (.t 19)), qp 21 13 20, qs 1 1 21] (qa [ql 22 1] (.cond (.t 22) (qa [qk 5 (.str [])] .ret) .skip))) (qa [ql 23 2, qb 24 .add (.t 23) (qx 1), qs 1 2 24] (qa [ql 25 3, ql 26 2, qb 27 .sub (.t 26) (qx 1), qo 28 (.idxS 1 (.t 25) (.t 27)), ql 29 28, qm 5 29] .ret)))⟩
theorem rf_describe_beginS3 : resF Go.Proofs.Tryz.prog 72 = some i_describe_beginS3 := by kernel_rfl
noncomputable def c44_0 : List It := [.op (some 8) none (.bin .geq (.t 7) (.c (.int .i64 0))), .op (some 4) none (.mv (.t 8))]
noncomputable def c44_1 : AC := .seq (.its (.op (some 5) none (.mv (.t 0)) :: .op (some 6) none (.mv (.t 1)) :: .call (some 7) none (.c (.func (.func n_slices_IndexFunc_api_Form) [] [])) [.t 5, .t 6] :: c44_0)) .ret
noncomputable def c44_2 : AC := .seq (.its ([.op (some 4) none (.mv (.c (.bool false)))])) c44_1
noncomputable def i_slices_ContainsFunc_api_Form : AFunc := ⟨9, [(4, none)], c44_2⟩
theorem rf_slices_ContainsFunc_api_Form : resF Go.Proofs.Tryz.prog n_slices_ContainsFunc_api_Form = some i_slices_ContainsFunc_api_Form := by kernel_rfl
noncomputable def c45_0 : List It := [.op (some 8) none (.bin .geq (.t 7) (.c (.int .i64 0))), .op (some 4) none (.mv (.t 8))]
noncomputable def c45_1 : AC := .seq (.its (.op (some 5) none (.mv (.t 0)) :: .op (some 6) none (.mv (.t 1)) :: .call (some 7) none (.c (.func (.func n_slices_IndexFunc_int) [] [])) [.t 5, .t 6] :: c45_0)) .ret
noncomputable def c45_2 : AC := .seq (.its ([.op (some 4) none (.mv (.c (.bool false)))])) c45_1
noncomputable def i_slices_ContainsFunc_int : AFunc := ⟨9, [(4, none)], c45_2⟩
theorem rf_slices_ContainsFunc_int : resF Go.Proofs.Tryz.prog n_slices_ContainsFunc_int = some i_slices_ContainsFunc_int := by kernel_rfl
noncomputable def c46_0 : List It := [.op (some 8) none (.bin .geq (.t 7) (.c (.int .i64 0))), .op (some 4) none (.mv (.t 8))]
noncomputable def c46_1 : AC := .seq (.its (.op (some 5) none (.mv (.t 0)) :: .op (some 6) none (.mv (.t 1)) :: .call (some 7) none (.c (.func (.func n_slices_Index_string) [] [])) [.t 5, .t 6] :: c46_0)) .ret
noncomputable def c46_2 : AC := .seq (.its ([.op (some 4) none (.mv (.c (.bool false)))])) c46_1
noncomputable def i_slices_Contains_string : AFunc := ⟨9, [(4, none)], c46_2⟩
theorem rf_slices_Contains_string : resF Go.Proofs.Tryz.prog n_slices_Contains_string = some i_slices_Contains_string := by kernel_rfl
noncomputable def c47_0 : List It := [.op (some 7) none (.un .not (.t 6)), .op (some 3) none (.mv (.t 7))]
noncomputable def c47_1 : AC := .seq (.its (.op (some 4) none (.load (some 4) (.t 2)) :: .op (some 5) none (.load none (.t 1)) :: .call (some 6) none (.c (.func (.func n_syntax_shape) [] [])) [.t 4, .t 5] :: c47_0)) .ret
noncomputable def c47_2 : AC := .seq (.its ([.op (some 2) none (.box (.t 0)), .op (some 3) none (.mv (.c (.bool false)))])) c47_1
noncomputable def i_syntax_shapeS2 : AFunc := ⟨8, [(3, none)], c47_2⟩
theorem rf_syntax_shapeS2 : resF Go.Proofs.Tryz.prog n_syntax_shapeS2 = some i_syntax_shapeS2 := by kernel_rfl
noncomputable def c48_0 : List It := [.op (some 7) none (.un .not (.t 6)), .op (some 3) none (.mv (.t 7))]
noncomputable def c48_1 : AC := .seq (.its (.op (some 4) none (.load (some 3) (.t 2)) :: .op (some 5) none (.load none (.t 1)) :: .call (some 6) none (.c (.func (.func n_syntax_term) [] [])) [.t 4, .t 5] :: c48_0)) .ret
noncomputable def c48_2 : AC := .seq (.its ([.op (some 2) none (.box (.t 0)), .op (some 3) none (.mv (.c (.bool false)))])) c48_1
noncomputable def i_syntax_termS1 : AFunc := ⟨8, [(3, none)], c48_2⟩
theorem rf_syntax_termS1 : resF Go.Proofs.Tryz.prog n_syntax_termS1 = some i_syntax_termS1 := by kernel_rfl
noncomputable def c49_0 : AC := .seq (.its ([.op (some 3) none (.mv (.t 0)), .op (some 4) none (.bin .geq (.t 3) (.c (.int .u8 48))), .op (some 5) none (.mv (.t 4)), .op (some 6) (some (5, true)) (.mv (.t 0)), .op (some 7) (some (5, true)) (.bin .leq (.t 6) (.c (.int .u8 57))), .op (some 8) none (.pick (.t 5) (.t 7) (.c (.bool false))), .op (some 2) none (.mv (.t 8))])) .ret
noncomputable def c49_1 : AC := .seq (.its ([.op (some 2) none (.mv (.c (.bool false)))])) c49_0
noncomputable def i_syntax_digit : AFunc := ⟨9, [(2, none)], c49_1⟩
theorem rf_syntax_digit : resF Go.Proofs.Tryz.prog n_syntax_digit = some i_syntax_digit := by kernel_rfl
noncomputable def i_frame_reach : AFunc := ⟨25, [(4, none)], qa [qk 4 (qi 0)] (qa [qk 5 (qi 0)] (.seq (qa [qm 8 0, qo 9 (.len .slice (.t 8)), qk 10 (qi 0)] (.block 0 (.loop (qa [qv 11 .lss 10 9] (.seq (.cond (.t 11) .skip (.exit 0)) (.seq (.block 1 (qa [qm 12 10, qo 13 (.idxS 1 (.t 8) (.t 10)), ql 14 13, qm 6 12, qm 7 14] (qa [qm 15 1, qm 16 6, qv 17 .shr 15 16, qb 18 .and (.t 17) (qx 1), qb 19 .eql (.t 18) (qx 1)] (.cond (.t 19) (.its [qm 20 5, qm 21 7, qv 22 .or 20 21, qm 5 22]) .skip)))) (.its [qb 23 .add (.t 10) (qx 1), qm 10 23]))))))) (qa [qm 24 5, qm 4 24] .ret)))⟩
theorem rf_frame_reach : resF Go.Proofs.Tryz.prog 254 = some i_frame_reach := by kernel_rfl
noncomputable def c50_0 : AC := .seq (.its ([.op (some 4) none (.fieldAddr 0 (.t 2)), .op (some 5) none (.load none (.t 4)), .op (some 6) none (.fieldAddr 0 (.t 1)), .op (some 7) none (.load none (.t 6)), .op (some 8) none (.bin .eql (.t 5) (.t 7)), .op (some 3) none (.mv (.t 8))])) .ret
noncomputable def c50_1 : AC := .seq (.its ([.op (some 2) none (.box (.t 0)), .op (some 3) none (.mv (.c (.bool false)))])) c50_0
noncomputable def i_describe_headS1 : AFunc := ⟨9, [(3, none)], c50_1⟩
theorem rf_describe_headS1 : resF Go.Proofs.Tryz.prog n_describe_headS1 = some i_describe_headS1 := by kernel_rfl
noncomputable def i_frame_missingS3 : AFunc := ⟨25, [(4, none)], qa [qk 4 (qi 0)] (qa [qk 5 (qi 0)] (.seq (qa [qm 8 0, qo 9 (.len .slice (.t 8)), qk 10 (qi 0)] (.block 0 (.loop (qa [qv 11 .lss 10 9] (.seq (.cond (.t 11) .skip (.exit 0)) (.seq (.block 1 (qa [qm 12 10, qo 13 (.idxS 1 (.t 8) (.t 10)), ql 14 13, qm 6 12, qm 7 14] (.its [qm 15 5, qm 16 7, qm 17 1, qv 18 .shr 16 17, qb 19 .and (.t 18) (qx 1), qm 20 6, qv 21 .shl 19 20, qv 22 .or 15 21, qm 5 22]))) (.its [qb 23 .add (.t 10) (qx 1), qm 10 23]))))))) (qa [qm 24 5, qm 4 24] .ret)))⟩
theorem rf_frame_missingS3 : resF Go.Proofs.Tryz.prog 258 = some i_frame_missingS3 := by kernel_rfl
noncomputable def c51_0 : AC := .seq (.its ([.op (some 3) none (.mv (.t 0)), .op (some 4) none (.build [.bool false, .str [], .slice none 0 (some 0) 0] [(0, 1, .c (.bool true)), (1, 1, .t 3)]), .op none none (.store 3 (.t 2) (.t 4))])) .ret
noncomputable def c51_1 : AC := .seq (.its ([.op (some 2) none (.alloc [.bool false, .str [], .slice none 0 (some 0) 0])])) c51_0
noncomputable def i_law30_variable : AFunc := ⟨5, [(2, some (some 3))], c51_1⟩
theorem rf_law30_variable : resF Go.Proofs.Tryz.prog n_law30_variable = some i_law30_variable := by kernel_rfl
noncomputable def c52_0 : List It := [.op (some 2) none (.mv (.t 4))]
noncomputable def c52_1 : AC := .seq (.its (.op (some 3) none (.mv (.t 0)) :: .call (some 4) none (.c (.func (.func n_istrconv_FormatInt) [] [])) [.t 3, .c (.int .i64 10)] :: c52_0)) .ret
noncomputable def c52_2 : AC := .seq (.its ([.op (some 2) none (.mv (.c (.str [])))])) c52_1
noncomputable def i_istrconv_Itoa : AFunc := ⟨5, [(2, none)], c52_2⟩
theorem rf_istrconv_Itoa : resF Go.Proofs.Tryz.prog n_istrconv_Itoa = some i_istrconv_Itoa := by kernel_rfl
noncomputable def c53_0 : List It := [.op (some 2) none (.mv (.t 4))]
noncomputable def c53_1 : AC := .seq (.its (.op (some 3) none (.mv (.t 0)) :: .call (some 4) none (.c (.func (.func n_strings_Join) [] [])) [.t 3, .c (.str [32])] :: c53_0)) .ret
noncomputable def c53_2 : AC := .seq (.its ([.op (some 2) none (.mv (.c (.str [])))])) c53_1
noncomputable def i_describe_join : AFunc := ⟨5, [(2, none)], c53_2⟩
theorem rf_describe_join : resF Go.Proofs.Tryz.prog n_describe_join = some i_describe_join := by kernel_rfl
noncomputable def i_holds_worlds_valid : AFunc := ⟨14, [(4, none)], qa [qo 2 (.box (.t 0)), qo 3 (.box (.t 1)), qk 4 (.bool false)] (qa [qn 5 7 3, qc 6 241 [.t 5], qm 7 6, qg 8 7 true (.fieldAddr 2 (.t 3)), qg 9 7 true (.load none (.t 8)), qg 10 7 true (.fieldAddr 1 (.t 2)), qg 11 7 true (.load none (.t 10)), .call (some 12) (some (7, true)) (.c (qf 242)) [.t 9, .t 11], qq 13 7 12, qm 4 13] .ret)⟩
theorem rf_holds_worlds_valid : resF Go.Proofs.Tryz.prog 240 = some i_holds_worlds_valid := by kernel_rfl
noncomputable def c54_0 : AC := .seq (.its ([.op (some 3) none (.mkFunc (.func n_syntax_termsS1) [] [.t 1]), .op (some 2) none (.mv (.t 3))])) .ret
noncomputable def c54_1 : AC := .seq (.its ([.op (some 1) none (.box (.t 0)), .op (some 2) none (.mv (.c .nilFunc))])) c54_0
noncomputable def i_syntax_terms : AFunc := ⟨4, [(2, none)], c54_1⟩
theorem rf_syntax_terms : resF Go.Proofs.Tryz.prog n_syntax_terms = some i_syntax_terms := by kernel_rfl
noncomputable def c55_0 : AC := .seq (.its ([.op (some 3) none (.mkFunc (.func n_syntax_allS1) [] [.t 1]), .op (some 2) none (.mv (.t 3))])) .ret
noncomputable def c55_1 : AC := .seq (.its ([.op (some 1) none (.box (.t 0)), .op (some 2) none (.mv (.c .nilFunc))])) c55_0
noncomputable def i_syntax_all : AFunc := ⟨4, [(2, none)], c55_1⟩
theorem rf_syntax_all : resF Go.Proofs.Tryz.prog n_syntax_all = some i_syntax_all := by kernel_rfl
noncomputable def c56_0 : AC := .its ([.op (some 3) none (.load (some 4) (.t 1)), .op (some 4) none (.mv (.t 0)), .call (some 5) none (.c (.func (.func n_syntax_every) [] [])) [.t 3, .t 4]])
noncomputable def i_syntax_allS1 : AFunc := ⟨6, [], c56_0⟩
theorem rf_syntax_allS1 : resF Go.Proofs.Tryz.prog n_syntax_allS1 = some i_syntax_allS1 := by kernel_rfl
noncomputable def i_describe_reader_word : AFunc := ⟨8, [], qa [qo 2 (.box (.t 0)), qo 3 (.box (.t 1))] (.its [qo 4 (.fieldAddr 0 (.t 2)), ql 5 4, qo 6 (.mkFunc (.func 114) [] [.t 3]), .call (some 7) none (.t 5) [.t 6]])⟩
theorem rf_describe_reader_word : resF Go.Proofs.Tryz.prog 75 = some i_describe_reader_word := by kernel_rfl
noncomputable def i_strings_ContainsFunc : AFunc := ⟨9, [(4, none)], qa [qk 4 (.bool false)] (qa [qm 5 0, qm 6 1, qc 7 156 [.t 5, .t 6], qb 8 .geq (.t 7) (qx 0), qm 4 8] .ret)⟩
theorem rf_strings_ContainsFunc : resF Go.Proofs.Tryz.prog 136 = some i_strings_ContainsFunc := by kernel_rfl
noncomputable def i_frame_missingS1 : AFunc := ⟨7, [(4, none)], qa [qk 4 (qi 0)] (qa [qm 5 1, qb 6 .shl (qx 1) (.t 5), qm 4 6] .ret)⟩
theorem rf_frame_missingS1 : resF Go.Proofs.Tryz.prog 256 = some i_frame_missingS1 := by kernel_rfl
end Go.Am
