/-
  A PART of the proof: ApIr2, ApIr3, ApW1, ApW2, ApW3, ApW4, ApW5.
-/
import Derived.Test.YtndfemigjgpdlaaGreatDoorT02
import Derived.Test.YtndfemigjgpdlaaGreatDoorT03
set_option linter.unusedSimpArgs false
set_option linter.unusedVariables false
namespace Go.Am
open Go.Proofs
set_option maxRecDepth 100000
noncomputable def c57_0 : AC := .cond (.t 20) .skip (.exit 0)
noncomputable def c57_1 : List It := [.op (some 7) none (.alloc [.int .u8 0, .str [], .slice none 0 (some 0) 0, .slice none 0 (some 0) 0]), .op none none (.store 4 (.t 7) (.t 42))]
noncomputable def c57_2 : List It := [.op (some 58) none (.buildSlice 8 1 [.str [], .int .u8 0, .str [], .slice none 0 (some 0) 0, .slice none 0 (some 0) 0, .int .i64 0, .slice none 0 (some 0) 0, .slice none 0 (some 0) 0] [(0, 8, .t 57)]), .op (some 59) none (.append 8 144 (.t 51) (.t 58)), .op (some 3) none (.mv (.t 59))]
noncomputable def c57_3 : AC := .its (.op (some 51) none (.mv (.t 3)) :: .op (some 52) none (.mv (.t 6)) :: .op (some 53) none (.conv .i64 (.t 52)) :: .op (some 54) none (.bin .mul (.t 53) (.c (.int .i64 3))) :: .op (some 55) none (.bin .add (.c (.int .i64 1)) (.t 54)) :: .op (some 56) none (.load (some 4) (.t 7)) :: .call (some 57) none (.c (.func (.func n_law41_leaf) [] [])) [.t 55, .t 56] :: c57_2)
noncomputable def c57_4 : AC := .its ([.op (some 64) none (.mv (.t 3)), .op (some 65) none (.load (some 4) (.t 7)), .op (some 66) none (.build [.str [], .int .u8 0, .str [], .slice none 0 (some 0) 0, .slice none 0 (some 0) 0, .int .i64 0, .slice none 0 (some 0) 0, .slice none 0 (some 0) 0] [(0, 1, .c (.str [63])), (1, 4, .t 65)]), .op (some 67) none (.buildSlice 8 1 [.str [], .int .u8 0, .str [], .slice none 0 (some 0) 0, .slice none 0 (some 0) 0, .int .i64 0, .slice none 0 (some 0) 0, .slice none 0 (some 0) 0] [(0, 8, .t 66)]), .op (some 68) none (.append 8 144 (.t 64) (.t 67)), .op (some 3) none (.mv (.t 68))])
noncomputable def c57_5 : AC := .cond (.t 82) .skip (.exit 3)
noncomputable def c57_6 : AC := .cond (.t 104) .skip (.exit 5)
noncomputable def c57_7 : AC := .its ([.op (some 107) none (.mv (.t 11)), .op (some 108) none (.mv (.t 6)), .op (some 109) none (.conv .i64 (.t 108)), .op (some 110) none (.mv (.t 12)), .op (some 111) none (.bin .mul (.t 109) (.t 110)), .op (some 112) none (.bin .mul (.t 111) (.c (.int .i64 7))), .op (some 113) none (.mv (.t 10)), .op (some 114) none (.bin .add (.t 112) (.t 113)), .op (some 115) none (.bin .rem (.t 114) (.c (.int .i64 1000))), .op (some 116) none (.buildSlice 1 1 [.int .i64 0] [(0, 1, .t 115)]), .op (some 117) none (.append 1 8 (.t 107) (.t 116)), .op (some 11) none (.mv (.t 117))])
noncomputable def c57_8 : AC := .its ([.op (some 105) none (.mv (.t 12)), .op (some 106) none (.bin .add (.t 105) (.c (.int .i64 1))), .op (some 12) none (.mv (.t 106))])
noncomputable def c57_9 : AC := .seq (.block 6 c57_7) c57_8
noncomputable def c57_10 : AC := .seq (.seq (.its ([.op (some 98) none (.mv (.t 12)), .op (some 99) none (.mv (.t 6)), .op (some 100) none (.conv .i64 (.t 99)), .op (some 101) none (.mv (.t 10)), .op (some 102) none (.bin .add (.t 100) (.t 101)), .op (some 103) none (.bin .rem (.t 102) (.c (.int .i64 4))), .op (some 104) none (.bin .lss (.t 98) (.t 103))])) c57_6) c57_9
noncomputable def c57_11 : AC := .loop c57_10
noncomputable def c57_12 : AC := .block 5 c57_11
noncomputable def c57_13 : AC := .its ([.op (some 118) none (.fieldAddr 7 (.t 9)), .op (some 119) none (.load none (.t 118)), .op (some 120) none (.mv (.t 11)), .op (some 121) none (.buildSlice 1 1 [.slice none 0 (some 0) 0] [(0, 1, .t 120)]), .op (some 122) none (.append 1 24 (.t 119) (.t 121)), .op (some 123) none (.fieldAddr 7 (.t 9)), .op none none (.store 1 (.t 123) (.t 122))])
noncomputable def c57_14 : AC := .seq (.seq (.its ([.op (some 12) none (.mv (.c (.int .i64 0)))])) c57_12) c57_13
noncomputable def c57_15 : AC := .seq (.its ([.op (some 11) none (.mv (.c (.slice none 0 (some 0) 0)))])) c57_14
noncomputable def c57_16 : AC := .seq (.its ([.op (some 85) none (.fieldAddr 6 (.t 9)), .op (some 86) none (.load none (.t 85)), .op (some 87) none (.mv (.t 3)), .op (some 88) none (.mv (.t 5)), .op (some 89) none (.mv (.t 8)), .op (some 90) none (.bin .sub (.t 88) (.t 89)), .op (some 91) none (.mv (.t 10)), .op (some 92) none (.bin .add (.t 90) (.t 91)), .op (some 93) none (.idxS 8 (.t 87) (.t 92)), .op (some 94) none (.load (some 8) (.t 93)), .op (some 95) none (.buildSlice 8 1 [.str [], .int .u8 0, .str [], .slice none 0 (some 0) 0, .slice none 0 (some 0) 0, .int .i64 0, .slice none 0 (some 0) 0, .slice none 0 (some 0) 0] [(0, 8, .t 94)]), .op (some 96) none (.append 8 144 (.t 86) (.t 95)), .op (some 97) none (.fieldAddr 6 (.t 9)), .op none none (.store 1 (.t 97) (.t 96))])) c57_15
noncomputable def c57_17 : AC := .its ([.op (some 83) none (.mv (.t 10)), .op (some 84) none (.bin .add (.t 83) (.c (.int .i64 1))), .op (some 10) none (.mv (.t 84))])
noncomputable def c57_18 : AC := .seq (.block 4 c57_16) c57_17
noncomputable def c57_19 : AC := .seq (.seq (.its ([.op (some 80) none (.mv (.t 10)), .op (some 81) none (.mv (.t 8)), .op (some 82) none (.bin .lss (.t 80) (.t 81))])) c57_5) c57_18
noncomputable def c57_20 : AC := .loop c57_19
noncomputable def c57_21 : AC := .block 3 c57_20
noncomputable def c57_22 : AC := .its ([.op (some 124) none (.mv (.t 3)), .op (some 125) none (.mv (.t 5)), .op (some 126) none (.mv (.t 8)), .op (some 127) none (.bin .sub (.t 125) (.t 126)), .op (some 128) none (.mv (.t 5)), .op (some 129) none (.mv (.t 8)), .op (some 130) none (.bin .sub (.t 128) (.t 129)), .op (some 131) none (.sliceS 8 (.t 124) none (some (.t 127)) (some (.t 130))), .op (some 132) none (.load (some 8) (.t 9)), .op (some 133) none (.buildSlice 8 1 [.str [], .int .u8 0, .str [], .slice none 0 (some 0) 0, .slice none 0 (some 0) 0, .int .i64 0, .slice none 0 (some 0) 0, .slice none 0 (some 0) 0] [(0, 8, .t 132)]), .op (some 134) none (.append 8 144 (.t 131) (.t 133)), .op (some 3) none (.mv (.t 134))])
noncomputable def c57_23 : AC := .seq (.seq (.its ([.op (some 10) none (.mv (.c (.int .i64 0)))])) c57_21) c57_22
noncomputable def c57_24 : AC := .seq (.its ([.op (some 73) none (.buildSlice 1 3 [.str [], .str [], .str []] [(0, 1, .c (.str [97, 110, 100, 73])), (1, 1, .c (.str [114, 50])), (2, 1, .c (.str [81]))]), .op (some 74) none (.mv (.t 6)), .op (some 75) none (.bin .rem (.t 74) (.c (.int .u8 3))), .op (some 76) none (.idxS 1 (.t 73) (.t 75)), .op (some 77) none (.load none (.t 76)), .op (some 78) none (.load (some 4) (.t 7)), .op (some 79) none (.build [.str [], .int .u8 0, .str [], .slice none 0 (some 0) 0, .slice none 0 (some 0) 0, .int .i64 0, .slice none 0 (some 0) 0, .slice none 0 (some 0) 0] [(0, 1, .t 77), (1, 4, .t 78)]), .op (some 9) none (.alloc [.str [], .int .u8 0, .str [], .slice none 0 (some 0) 0, .slice none 0 (some 0) 0, .int .i64 0, .slice none 0 (some 0) 0, .slice none 0 (some 0) 0]), .op none none (.store 8 (.t 9) (.t 79))])) c57_23
noncomputable def c57_25 : AC := .cond (.t 69) c57_24 .skip
noncomputable def c57_26 : AC := .seq (.its ([.op (some 70) none (.mv (.t 8)), .op (some 71) none (.mv (.t 5)), .op (some 72) none (.bin .leq (.t 70) (.t 71)), .op (some 69) none (.mv (.t 72))])) c57_25
noncomputable def c57_27 : AC := .cond (.t 60) c57_4 c57_26
noncomputable def c57_28 : AC := .seq (.its ([.op (some 61) none (.mv (.t 6)), .op (some 62) none (.bin .rem (.t 61) (.c (.int .u8 4))), .op (some 63) none (.bin .eql (.t 62) (.c (.int .u8 1))), .op (some 60) none (.mv (.t 63))])) c57_27
noncomputable def c57_29 : AC := .cond (.t 47) c57_3 c57_28
noncomputable def c57_30 : AC := .seq (.its ([.op (some 48) none (.mv (.t 6)), .op (some 49) none (.bin .rem (.t 48) (.c (.int .u8 4))), .op (some 50) none (.bin .eql (.t 49) (.c (.int .u8 0))), .op (some 47) none (.mv (.t 50))])) c57_29
noncomputable def c57_31 : AC := .block 2 c57_30
noncomputable def c57_32 : AC := .seq (.its ([.op (some 43) none (.mv (.t 6)), .op (some 44) none (.bin .quo (.t 43) (.c (.int .u8 4))), .op (some 45) none (.conv .i64 (.t 44)), .op (some 46) none (.bin .rem (.t 45) (.c (.int .i64 5))), .op (some 8) none (.mv (.t 46))])) c57_31
noncomputable def c57_33 : AC := .seq (.its (.op (some 29) none (.mv (.t 0)) :: .op (some 30) none (.mv (.t 4)) :: .op (some 31) none (.bin .quo (.t 30) (.c (.int .i64 2))) :: .op (some 32) none (.mv (.t 4)) :: .op (some 33) none (.bin .quo (.t 32) (.c (.int .i64 2))) :: .op (some 34) none (.mv (.t 6)) :: .op (some 35) none (.conv .i64 (.t 34)) :: .op (some 36) none (.bin .rem (.t 35) (.c (.int .i64 4))) :: .op (some 37) none (.bin .add (.t 33) (.t 36)) :: .op (some 38) none (.mv (.t 0)) :: .op (some 39) none (.len .slice (.t 38)) :: .op (some 40) none (.min [.t 37, .t 39]) :: .op (some 41) none (.sliceS 1 (.t 29) (some (.t 31)) (some (.t 40)) none) :: .call (some 42) none (.c (.func (.func n_law30_Built) [] [])) [.t 41] :: c57_1)) c57_32
noncomputable def c57_34 : AC := .seq (.its ([.op (some 23) none (.mv (.t 3)), .op (some 24) none (.len .slice (.t 23)), .op (some 25) none (.mv (.t 0)), .op (some 26) none (.mv (.t 4)), .op (some 27) none (.idxS 1 (.t 25) (.t 26)), .op (some 28) none (.load none (.t 27)), .op (some 5) none (.mv (.t 24)), .again 28 none (.load none (.t 27)), .op (some 6) none (.mv (.t 28))])) c57_33
noncomputable def c57_35 : AC := .its ([.op (some 21) none (.mv (.t 4)), .op (some 22) none (.bin .add (.t 21) (.c (.int .i64 1))), .op (some 4) none (.mv (.t 22))])
noncomputable def c57_36 : AC := .seq (.block 1 c57_34) c57_35
noncomputable def c57_37 : AC := .seq (.seq (.its ([.op (some 13) none (.mv (.t 4)), .op (some 14) none (.mv (.t 0)), .op (some 15) none (.len .slice (.t 14)), .op (some 16) none (.bin .lss (.t 13) (.t 15)), .op (some 17) none (.mv (.t 16)), .op (some 18) (some (17, true)) (.mv (.t 4)), .op (some 19) (some (17, true)) (.bin .lss (.t 18) (.c (.int .i64 30))), .op (some 20) none (.pick (.t 17) (.t 19) (.c (.bool false)))])) c57_0) c57_36
noncomputable def c57_38 : AC := .loop c57_37
noncomputable def c57_39 : AC := .block 0 c57_38
noncomputable def c57_40 : List It := [.op none none (.store 8 (.t 2) (.t 139))]
noncomputable def c57_41 : List It := .call (some 139) none (.c (.func (.func n_law41_leaf) [] [])) [.c (.int .i64 1), .t 138] :: c57_40
noncomputable def c57_42 : AC := .seq (.its (.call (some 138) none (.c (.func (.func n_law41_join) [] [])) [.c (.int .u8 2), .c (.slice none 0 (some 0) 0)] :: c57_41)) .ret
noncomputable def c57_43 : AC := .cond (.t 137) c57_42 .skip
noncomputable def c57_44 : AC := .seq (.its ([.op (some 140) none (.mv (.t 3)), .op (some 141) none (.mv (.t 3)), .op (some 142) none (.len .slice (.t 141)), .op (some 143) none (.bin .sub (.t 142) (.c (.int .i64 1))), .op (some 144) none (.idxS 8 (.t 140) (.t 143)), .op (some 145) none (.load (some 8) (.t 144)), .op none none (.store 8 (.t 2) (.t 145))])) .ret
noncomputable def c57_45 : AC := .seq (.seq (.its ([.op (some 135) none (.mv (.t 3)), .op (some 136) none (.len .slice (.t 135)), .op (some 137) none (.bin .eql (.t 136) (.c (.int .i64 0)))])) c57_43) c57_44
noncomputable def c57_46 : AC := .seq (.seq (.its ([.op (some 4) none (.mv (.c (.int .i64 0)))])) c57_39) c57_45
noncomputable def c57_47 : AC := .seq (.its ([.op (some 3) none (.mv (.c (.slice none 0 (some 0) 0)))])) c57_46
noncomputable def c57_48 : AC := .seq (.its ([.op (some 2) none (.alloc [.str [], .int .u8 0, .str [], .slice none 0 (some 0) 0, .slice none 0 (some 0) 0, .int .i64 0, .slice none 0 (some 0) 0, .slice none 0 (some 0) 0])])) c57_47
noncomputable def i_law41_Proved : AFunc := ⟨146, [(2, some (some 8))], c57_48⟩
theorem rf_law41_Proved : resF Go.Proofs.Tryz.prog n_law41_Proved = some i_law41_Proved := by kernel_rfl
noncomputable def i_law41_awake : AFunc := ⟨173, [(0, none)], qa [qk 0 (.bool false)] (qa [qc 22 14 [qy [80], .c (.slice none 0 (some 0) 0)], qc 23 14 [qy [81], .c (.slice none 0 (some 0) 0)], qc 24 15 [qy [120]], qc 25 15 [qy [121]], qo 1 (.alloc [qu 0, .str [], .slice none 0 (some 0) 0, .slice none 0 (some 0) 0]), qo 2 (.alloc [qu 0, .str [], .slice none 0 (some 0) 0, .slice none 0 (some 0) 0]), qo 3 (.alloc [.bool false, .str [], .slice none 0 (some 0) 0]), qo 4 (.alloc [.bool false, .str [], .slice none 0 (some 0) 0]), qs 4 1 22, qs 4 2 23, qs 3 3 24, qs 3 4 25] (qa [qn 26 4 1, qn 27 4 2, qo 28 (.buildSlice 4 2 [qu 0, .str [], .slice none 0 (some 0) 0, .slice none 0 (some 0) 0, qu 0, .str [], .slice none 0 (some 0) 0, .slice none 0 (some 0) 0] [(0, 4, .t 26), (4, 4, .t 27)]), qc 29 16 [.c (qu 6), .t 28], qo 5 (.alloc [qu 0, .str [], .slice none 0 (some 0) 0, .slice none 0 (some 0) 0]), qs 4 5 29] (qa [qn 31 4 1, qn 32 4 2, qc 33 14 [qy [82], .c (.slice none 0 (some 0) 0)], .again 32 none (.load (some 4) (.t 2)), .again 31 none (.load (some 4) (.t 1)), qo 34 (.buildSlice 4 1 [qu 0, .str [], .slice none 0 (some 0) 0, .slice none 0 (some 0) 0] [(0, 4, .t 33)]), qc 35 16 [.c (qu 3), .t 34], .again 32 none (.load (some 4) (.t 2)), .again 31 none (.load (some 4) (.t 1)), qo 36 (.buildSlice 4 2 [qu 0, .str [], .slice none 0 (some 0) 0, .slice none 0 (some 0) 0, qu 0, .str [], .slice none 0 (some 0) 0, .slice none 0 (some 0) 0] [(0, 4, .t 32), (4, 4, .t 35)]), qc 37 16 [.c (qu 4), .t 36], .again 31 none (.load (some 4) (.t 1)), qo 38 (.buildSlice 4 2 [qu 0, .str [], .slice none 0 (some 0) 0, .slice none 0 (some 0) 0, qu 0, .str [], .slice none 0 (some 0) 0, .slice none 0 (some 0) 0] [(0, 4, .t 31), (4, 4, .t 37)]), qc 39 16 [.c (qu 6), .t 38], qc 40 6 [.t 39], qm 30 40, qe 41 0 30, qe 42 1 30, qm 6 41, qm 7 42] (qa [qn 44 3 3, qn 45 3 4, qc 46 18 [qy [97], .c (.slice none 0 (some 0) 0)], .again 45 none (.load (some 3) (.t 4)), .again 44 none (.load (some 3) (.t 3)), qo 47 (.buildSlice 3 2 [.bool false, .str [], .slice none 0 (some 0) 0, .bool false, .str [], .slice none 0 (some 0) 0] [(0, 3, .t 45), (3, 3, .t 46)]), qc 48 18 [qy [102], .t 47], .again 44 none (.load (some 3) (.t 3)), qo 49 (.buildSlice 3 2 [.bool false, .str [], .slice none 0 (some 0) 0, .bool false, .str [], .slice none 0 (some 0) 0] [(0, 3, .t 44), (3, 3, .t 48)]), qc 50 14 [qy [82], .t 49], qc 51 17 [.c (qu 9), qy [121], .t 50], qc 52 17 [.c (qu 8), qy [120], .t 51], qc 53 6 [.t 52], qm 43 53, qe 54 0 43, qe 55 1 43, qm 8 54, qm 9 55] (qa [qn 57 4 1, qc 58 16 [.c (qu 2), .c (.slice none 0 (some 0) 0)], .again 57 none (.load (some 4) (.t 1)), qo 59 (.buildSlice 4 2 [qu 0, .str [], .slice none 0 (some 0) 0, .slice none 0 (some 0) 0, qu 0, .str [], .slice none 0 (some 0) 0, .slice none 0 (some 0) 0] [(0, 4, .t 57), (4, 4, .t 58)]), qc 60 16 [.c (qu 14), .t 59], qo 61 (.buildSlice 4 1 [qu 0, .str [], .slice none 0 (some 0) 0, .slice none 0 (some 0) 0] [(0, 4, .t 60)]), qc 62 16 [.c (qu 10), .t 61], qc 63 6 [.t 62], qm 56 63, qe 64 0 56, qe 65 1 56, qm 10 64, qm 11 65] (.seq (qa [qm 66 7, qm 67 9, qv 68 .add 66 67, qm 69 11, qv 70 .add 68 69, qb 71 .neq (.t 70) (qx 0), qm 72 71, qh 73 72 false 6, qg 74 72 false (.bin .neq (.t 73) (qy [105, 102, 32, 80, 32, 116, 104, 101, 110, 32, 98, 111, 116, 104, 32, 81, 32, 97, 110, 100, 32, 110, 111, 116, 32, 82])), qp 75 72 74, qm 76 75, qh 77 76 false 8, qg 78 76 false (.bin .neq (.t 77) (qy [102, 111, 114, 32, 97, 108, 108, 32, 120, 32, 102, 111, 114, 32, 115, 111, 109, 101, 32, 121, 32, 82, 32, 111, 102, 32, 120, 32, 97, 110, 100, 32, 102, 32, 111, 102, 32, 121, 32, 97, 110, 100, 32, 97, 32, 99, 108, 111, 115, 101, 32, 99, 108, 111, 115, 101])), qp 79 76 78, qm 80 79, qh 81 80 false 10, qg 82 80 false (.bin .neq (.t 81) (qy [110, 101, 99, 101, 115, 115, 97, 114, 105, 108, 121, 32, 119, 104, 105, 108, 101, 32, 80, 32, 117, 110, 116, 105, 108, 32, 102, 97, 108, 115, 101])), qp 83 80 82] (.cond (.t 83) (qa [qk 0 (.bool false)] .ret) .skip)) (.seq (qa [qo 84 (.buildSlice 1 4 [.str [], .str [], .str [], .str []] [(0, 1, qy [98, 111, 116, 104, 32, 80, 32, 111, 114, 32, 81]), (1, 1, qy [105, 102, 32, 80, 32, 116, 104, 101, 110]), (2, 1, qy [80, 32, 81]), (3, 1, qy [])]), qo 85 (.len .slice (.t 84)), qk 86 (qi 0)] (.block 0 (.loop (qa [qv 87 .lss 86 85] (.seq (.cond (.t 87) .skip (.exit 0)) (.seq (.block 1 (qa [qm 88 86, qo 89 (.idxS 1 (.t 84) (.t 86)), ql 90 89, qm 12 88, qm 13 90] (qa [qm 92 13, qc 93 19 [.t 92], qm 91 93, qe 94 0 91, qe 95 1 91, qe 96 2 91, qo 14 (.alloc [qu 0, .str [], .slice none 0 (some 0) 0, .slice none 0 (some 0) 0]), qs 4 14 94, qm 15 95, qm 16 96] (qa [qm 97 15, qo 98 (.buildSlice 1 4 [qi 0, qi 0, qi 0, qi 0] [(0, 1, qx 2), (1, 1, qx 3), (2, 1, qx 1), (3, 1, qx 0)]), qm 99 12, qo 100 (.idxS 1 (.t 98) (.t 99)), ql 101 100, qv 102 .neq 97 101, qm 103 102, qh 104 103 false 16, qg 105 103 false (.bin .neq (.t 104) (qx 410)), qp 106 103 105] (.cond (.t 106) (qa [qk 0 (.bool false)] .ret) .skip))))) (.its [qb 107 .add (.t 86) (qx 1), qm 86 107]))))))) (qa [qn 109 4 1, qn 110 4 2, qo 111 (.buildSlice 4 1 [qu 0, .str [], .slice none 0 (some 0) 0, .slice none 0 (some 0) 0] [(0, 4, .t 110)]), qc 112 16 [.c (qu 3), .t 111], .again 109 none (.load (some 4) (.t 1)), qo 113 (.buildSlice 4 2 [qu 0, .str [], .slice none 0 (some 0) 0, .slice none 0 (some 0) 0, qu 0, .str [], .slice none 0 (some 0) 0, .slice none 0 (some 0) 0] [(0, 4, .t 109), (4, 4, .t 112)]), qc 114 16 [.c (qu 6), .t 113], qc 115 20 [.t 114], qm 108 115, qe 116 0 108, qe 117 1 108, qm 17 116, qm 7 117] (qa [qn 119 4 1, qn 120 4 5, qo 121 (.buildSlice 4 2 [qu 0, .str [], .slice none 0 (some 0) 0, .slice none 0 (some 0) 0, qu 0, .str [], .slice none 0 (some 0) 0, .slice none 0 (some 0) 0] [(0, 4, .t 119), (4, 4, .t 120)]), qn 122 4 2, qo 123 (.buildSlice 4 1 [qu 0, .str [], .slice none 0 (some 0) 0, .slice none 0 (some 0) 0] [(0, 4, .t 122)]), qo 124 (.build [.slice none 0 (some 0) 0, .slice none 0 (some 0) 0] [(0, 1, .t 121), (1, 1, .t 123)]), qc 125 7 [.t 124], qm 118 125, qe 126 0 118, qe 127 1 118, qm 18 126, qm 9 127] (qa [qn 129 4 2, qo 130 (.buildSlice 1 2 [.slice none 0 (some 0) 0, .slice none 0 (some 0) 0] [(0, 1, .c (.slice none 0 (some 0) 0)), (1, 1, .c (.slice none 0 (some 0) 0))]), qn 131 4 5, qn 133 4 1, qc 132 22 [qx 2, .t 131], .again 133 none (.load (some 4) (.t 1)), .again 130 none (.buildSlice 1 2 [.slice none 0 (some 0) 0, .slice none 0 (some 0) 0] [(0, 1, .c (.slice none 0 (some 0) 0)), (1, 1, .c (.slice none 0 (some 0) 0))]), .again 129 none (.load (some 4) (.t 2)), qc 134 22 [qx 1, .t 133], .again 130 none (.buildSlice 1 2 [.slice none 0 (some 0) 0, .slice none 0 (some 0) 0] [(0, 1, .c (.slice none 0 (some 0) 0)), (1, 1, .c (.slice none 0 (some 0) 0))]), .again 129 none (.load (some 4) (.t 2)), qo 135 (.buildSlice 8 2 [.str [], qu 0, .str [], .slice none 0 (some 0) 0, .slice none 0 (some 0) 0, qi 0, .slice none 0 (some 0) 0, .slice none 0 (some 0) 0, .str [], qu 0, .str [], .slice none 0 (some 0) 0, .slice none 0 (some 0) 0, qi 0, .slice none 0 (some 0) 0, .slice none 0 (some 0) 0] [(0, 8, .t 132), (8, 8, .t 134)]), qc 136 21 [qy [105, 109, 112, 69], .t 129, .t 130, .t 135], qc 137 9 [.t 136], qm 128 137, qe 138 0 128, qe 139 1 128, qm 19 138, qm 11 139] (qa [qo 141 (.buildSlice 1 2 [qi 0, qi 0] [(0, 1, qx 2), (1, 1, qx 0)]), qo 142 (.build [.str [], qi 0, qi 0] [(0, 1, qy [80]), (2, 1, qx 2)]), qo 143 (.buildSlice 3 1 [.str [], qi 0, qi 0] [(0, 3, .t 142)]), qo 144 (.build [qu 0, qi 0, .slice none 0 (some 0) 0, qi 0, .slice none 0 (some 0) 0, .slice none 0 (some 0) 0, .slice none 0 (some 0) 0] [(0, 1, .c (qu 4)), (1, 1, qx 2), (2, 1, .t 141), (4, 1, .t 143)]), qc 145 23 [.t 144], qm 140 145, qe 146 0 140, qe 147 1 140, qm 20 146, qm 21 147] (.seq (qa [qm 148 7, qm 149 9, qv 150 .add 148 149, qm 151 11, qv 152 .add 150 151, qm 153 21, qv 154 .add 152 153, qb 155 .neq (.t 154) (qx 0), qm 156 155, qh 157 156 false 18, qg 158 156 false (.bin .neq (.t 157) (qy [103, 105, 118, 101, 110, 32, 80, 44, 32, 103, 105, 118, 101, 110, 32, 105, 102, 32, 80, 32, 116, 104, 101, 110, 32, 81, 44, 32, 115, 104, 111, 119, 32, 81])), qp 159 156 158] (.cond (.t 159) (qa [qk 0 (.bool false)] .ret) .skip)) (qa [qm 160 17, qo 161 (.buildSlice 1 4 [.str [], .str [], .str [], .str []] [(0, 1, qy [108, 101, 118, 101, 108, 32, 48, 58, 32, 105, 102]), (1, 1, qy [108, 101, 118, 101, 108, 32, 49, 58, 32, 80]), (2, 1, qy [108, 101, 118, 101, 108, 32, 49, 58, 32, 110, 111, 116]), (3, 1, qy [108, 101, 118, 101, 108, 32, 50, 58, 32, 81])]), qc 162 12 [.t 160, .t 161], qm 163 162, qh 164 163 true 19, qg 165 163 true (.buildSlice 1 3 [.str [], .str [], .str []] [(0, 1, qy [49, 58, 32, 97, 115, 115, 117, 109, 101, 32, 50, 44, 32, 105, 102, 32, 80, 32, 116, 104, 101, 110, 32, 81]), (1, 1, qy [50, 58, 32, 97, 115, 115, 117, 109, 101, 32, 49, 44, 32, 80]), (2, 1, qy [51, 58, 32, 81, 44, 32, 98, 121, 32, 105, 109, 112, 69, 32, 102, 114, 111, 109, 32, 49, 44, 32, 50])]), .call (some 166) (some (163, true)) (.c (qf 12)) [.t 164, .t 165], qq 167 163 166, qm 168 167, qh 169 168 true 20, qg 170 168 true (.buildSlice 1 4 [.str [], .str [], .str [], .str []] [(0, 1, qy [50, 32, 119, 111, 114, 108, 100, 115]), (1, 1, qy [80, 32, 105, 115, 32, 116, 114, 117, 101, 32, 97, 116, 32, 49]), (2, 1, qy [48, 32, 115, 101, 101, 115, 32, 49]), (3, 1, qy [49, 32, 115, 101, 101, 115, 32, 110, 111, 116, 104, 105, 110, 103])]), .call (some 171) (some (168, true)) (.c (qf 12)) [.t 169, .t 170], qq 172 168 171, qm 0 172] .ret)))))))))))))⟩
theorem rf_law41_awake : resF Go.Proofs.Tryz.prog 4 = some i_law41_awake := by kernel_rfl
noncomputable def c58_0 : List It := [.op (some 28) (some (24, false)) (.un .not (.t 27)), .op (some 29) none (.pick (.t 24) (.c (.bool true)) (.t 28)), .op (some 30) none (.mv (.t 29)), .op (some 31) (some (30, false)) (.fieldAddr 6 (.t 3)), .op (some 32) (some (30, false)) (.load none (.t 31)), .op (some 33) (some (30, false)) (.len .slice (.t 32)), .op (some 34) (some (30, false)) (.bin .gtr (.t 33) (.c (.int .i64 4))), .op (some 35) none (.pick (.t 30) (.c (.bool true)) (.t 34)), .op (some 36) none (.mv (.t 35)), .op (some 37) (some (36, false)) (.fieldAddr 7 (.t 3)), .op (some 38) (some (36, false)) (.load none (.t 37)), .op (some 39) (some (36, false)) (.len .slice (.t 38)), .op (some 40) (some (36, false)) (.fieldAddr 6 (.t 3)), .op (some 41) (some (36, false)) (.load none (.t 40)), .op (some 42) (some (36, false)) (.len .slice (.t 41)), .op (some 43) (some (36, false)) (.bin .neq (.t 39) (.t 42)), .op (some 44) none (.pick (.t 36) (.c (.bool true)) (.t 43)), .op (some 15) none (.mv (.t 44))]
noncomputable def c58_1 : AC := .seq (.its ([.op (some 6) none (.mv (.c (.bool false)))])) .ret
noncomputable def c58_2 : List It := [.op (some 63) none (.pick (.t 58) (.t 62) (.c (.bool false))), .op (some 6) none (.mv (.t 63))]
noncomputable def c58_3 : AC := .seq (.its (.op (some 49) none (.fieldAddr 6 (.t 3)) :: .op (some 50) none (.load none (.t 49)) :: .op (some 51) none (.len .slice (.t 50)) :: .op (some 52) none (.bin .eql (.t 51) (.c (.int .i64 0))) :: .op (some 53) none (.mv (.t 52)) :: .op (some 54) (some (53, true)) (.fieldAddr 5 (.t 3)) :: .op (some 55) (some (53, true)) (.load none (.t 54)) :: .op (some 56) (some (53, true)) (.bin .neq (.t 55) (.c (.int .i64 0))) :: .op (some 57) none (.pick (.t 53) (.t 56) (.c (.bool false))) :: .op (some 58) none (.mv (.t 57)) :: .op (some 59) (some (58, true)) (.load none (.t 7)) :: .op (some 60) (some (58, true)) (.fieldAddr 5 (.t 3)) :: .op (some 61) (some (58, true)) (.load none (.t 60)) :: .call (some 62) (some (58, true)) (.t 59) [.t 61] :: c58_2)) .ret
noncomputable def c58_4 : AC := .seq (.its ([.op (some 68) none (.fieldAddr 6 (.t 3)), .op (some 69) none (.load none (.t 68)), .op (some 70) none (.len .slice (.t 69)), .op (some 71) none (.bin .eql (.t 70) (.c (.int .i64 0))), .op (some 72) none (.mv (.t 71)), .op (some 73) (some (72, true)) (.fieldAddr 5 (.t 3)), .op (some 74) (some (72, true)) (.load none (.t 73)), .op (some 75) (some (72, true)) (.bin .eql (.t 74) (.c (.int .i64 0))), .op (some 76) none (.pick (.t 72) (.t 75) (.c (.bool false))), .op (some 6) none (.mv (.t 76))])) .ret
noncomputable def c58_5 : List It := [.op (some 81) none (.un .not (.t 80)), .op (some 82) none (.mv (.t 81)), .op (some 83) (some (82, false)) (.fieldAddr 5 (.t 3)), .op (some 84) (some (82, false)) (.load none (.t 83)), .op (some 85) (some (82, false)) (.bin .neq (.t 84) (.c (.int .i64 0))), .op (some 86) none (.pick (.t 82) (.c (.bool true)) (.t 85)), .op (some 77) none (.mv (.t 86))]
noncomputable def c58_6 : AC := .seq (.its ([.op (some 6) none (.mv (.c (.bool false)))])) .ret
noncomputable def c58_7 : AC := .cond (.t 77) c58_6 .skip
noncomputable def c58_8 : AC := .seq (.its (.op (some 78) none (.fieldAddr 0 (.t 3)) :: .op (some 79) none (.load none (.t 78)) :: .call (some 80) none (.c (.func (.func n_describe_name) [] [])) [.t 79] :: c58_5)) c58_7
noncomputable def c58_9 : AC := .cond (.t 64) c58_4 c58_8
noncomputable def c58_10 : AC := .seq (.its ([.op (some 65) none (.fieldAddr 0 (.t 3)), .op (some 66) none (.load none (.t 65)), .op (some 67) none (.bin .eql (.t 66) (.c (.str [63]))), .op (some 64) none (.mv (.t 67))])) c58_9
noncomputable def c58_11 : AC := .cond (.t 45) c58_3 c58_10
noncomputable def c58_12 : AC := .seq (.its ([.op (some 46) none (.fieldAddr 0 (.t 3)), .op (some 47) none (.load none (.t 46)), .op (some 48) none (.bin .eql (.t 47) (.c (.str []))), .op (some 45) none (.mv (.t 48))])) c58_11
noncomputable def c58_13 : AC := .cond (.t 15) c58_1 c58_12
noncomputable def c58_14 : AC := .seq (.its (.op (some 16) none (.mv (.t 2)) :: .op (some 17) none (.nilCheck (.t 16)) :: .op (some 18) none (.load none (.t 17)) :: .op (some 19) none (.bin .lss (.t 18) (.c (.int .i64 0))) :: .op (some 20) none (.mv (.t 19)) :: .op (some 21) (some (20, false)) (.mv (.t 1)) :: .op (some 22) (some (20, false)) (.bin .gtr (.t 21) (.c (.int .i64 40))) :: .op (some 23) none (.pick (.t 20) (.c (.bool true)) (.t 22)) :: .op (some 24) none (.mv (.t 23)) :: .op (some 25) (some (24, false)) (.fieldAddr 1 (.t 3)) :: .op (some 26) (some (24, false)) (.load (some 4) (.t 25)) :: .call (some 27) (some (24, false)) (.c (.func (.func n_syntax_Right) [] [])) [.t 26] :: c58_0)) c58_13
noncomputable def c58_15 : List It := [.op (some 117) (some (111, false)) (.un .not (.t 116)), .op (some 118) none (.pick (.t 111) (.c (.bool true)) (.t 117))]
noncomputable def c58_16 : List It := .op (some 110) none (.pick (.t 102) (.c (.bool true)) (.t 109)) :: .op (some 111) none (.mv (.t 110)) :: .op (some 112) (some (111, false)) (.load (some 8) (.t 9)) :: .op (some 113) (some (111, false)) (.mv (.t 1)) :: .op (some 114) (some (111, false)) (.bin .add (.t 113) (.c (.int .i64 1))) :: .op (some 115) (some (111, false)) (.mv (.t 2)) :: .call (some 116) (some (111, false)) (.c (.func (.func n_describe_fits) [] [])) [.t 112, .t 114, .t 115] :: c58_15
noncomputable def c58_17 : AC := .seq (.its ([.op (some 6) none (.mv (.c (.bool false)))])) .ret
noncomputable def c58_18 : AC := .cond (.t 118) c58_17 .skip
noncomputable def c58_19 : AC := .seq (.its (.op (some 95) none (.fieldAddr 7 (.t 3)) :: .op (some 96) none (.load none (.t 95)) :: .op (some 97) none (.mv (.t 8)) :: .op (some 98) none (.idxS 1 (.t 96) (.t 97)) :: .op (some 99) none (.load none (.t 98)) :: .op (some 100) none (.len .slice (.t 99)) :: .op (some 101) none (.bin .gtr (.t 100) (.c (.int .i64 3))) :: .op (some 102) none (.mv (.t 101)) :: .op (some 103) (some (102, false)) (.fieldAddr 7 (.t 3)) :: .op (some 104) (some (102, false)) (.load none (.t 103)) :: .op (some 105) (some (102, false)) (.mv (.t 8)) :: .op (some 106) (some (102, false)) (.idxS 1 (.t 104) (.t 105)) :: .op (some 107) (some (102, false)) (.load none (.t 106)) :: .op (some 108) (some (102, false)) (.mkFunc (.func n_describe_fitsS2) [] [.t 7]) :: .call (some 109) (some (102, false)) (.c (.func (.func n_slices_ContainsFunc_int) [] [])) [.t 107, .t 108] :: c58_16)) c58_18
noncomputable def c58_20 : AC := .seq (.its ([.op (some 92) none (.mv (.t 90)), .op (some 93) none (.idxS 8 (.t 88) (.t 90)), .op (some 94) none (.load (some 8) (.t 93)), .op (some 9) none (.alloc [.str [], .int .u8 0, .str [], .slice none 0 (some 0) 0, .slice none 0 (some 0) 0, .int .i64 0, .slice none 0 (some 0) 0, .slice none 0 (some 0) 0]), .op (some 8) none (.mv (.t 92)), .op none none (.store 8 (.t 9) (.t 94))])) c58_19
noncomputable def c58_21 : AC := .its ([.op (some 119) none (.bin .add (.t 90) (.c (.int .i64 1))), .op (some 90) none (.mv (.t 119))])
noncomputable def c58_22 : AC := .seq (.block 2 c58_20) c58_21
noncomputable def c58_23 : AC := .seq (.cond (.t 91) .skip (.exit 1)) c58_22
noncomputable def c58_24 : AC := .seq (.its ([.op (some 91) none (.bin .lss (.t 90) (.t 89))])) c58_23
noncomputable def c58_25 : AC := .loop c58_24
noncomputable def c58_26 : AC := .block 1 c58_25
noncomputable def c58_27 : AC := .seq (.its ([.op (some 6) none (.mv (.c (.bool true)))])) .ret
noncomputable def c58_28 : AC := .seq (.seq (.its ([.op (some 87) none (.fieldAddr 6 (.t 3)), .op (some 88) none (.load none (.t 87)), .op (some 89) none (.len .slice (.t 88)), .op (some 90) none (.mv (.c (.int .i64 0)))])) c58_26) c58_27
noncomputable def c58_29 : AC := .seq (.block 0 c58_14) c58_28
noncomputable def c58_30 : AC := .seq (.its ([.op (some 7) none (.alloc [.nilFunc]), .op none none (.store 1 (.t 7) (.c (.func (.func n_describe_fitsS1) [] [])))])) c58_29
noncomputable def c58_31 : AC := .seq (.its ([.op (some 10) none (.mv (.t 2)), .op (some 11) none (.nilCheck (.t 10)), .op (some 12) none (.load none (.t 11)), .op (some 13) none (.bin .sub (.t 12) (.c (.int .i64 1))), .op (some 14) none (.nilCheck (.t 10)), .op none none (.store 1 (.t 14) (.t 13))])) c58_30
noncomputable def c58_32 : AC := .seq (.its ([.op (some 3) none (.box (.t 0)), .op (some 6) none (.mv (.c (.bool false)))])) c58_31
noncomputable def i_describe_fits : AFunc := ⟨120, [(6, none)], c58_32⟩
theorem rf_describe_fits : resF Go.Proofs.Tryz.prog n_describe_fits = some i_describe_fits := by kernel_rfl
noncomputable def c59_0 : List It := [.op (some 16) none (.len .slice (.t 15)), .op (some 17) none (.mv (.c (.int .i64 0)))]
noncomputable def c59_1 : List It := [.op (some 22) none (.mv (.t 24)), .op (some 25) none (.extract 0 (.t 22)), .op (some 26) none (.extract 1 (.t 22)), .op (some 7) none (.mv (.t 25)), .op (some 8) none (.mv (.t 26))]
noncomputable def c59_2 : AC := .seq (.its ([.op (some 29) none (.mv (.t 8)), .op (some 2) none (.mv (.c (.str []))), .op (some 3) none (.mv (.t 29))])) .ret
noncomputable def c59_3 : AC := .cond (.t 28) c59_2 .skip
noncomputable def c59_4 : AC := .its ([.op (some 9) none (.mv (.c (.str [103, 105, 118, 101, 110])))])
noncomputable def c59_5 : AC := .cond (.t 34) c59_4 .skip
noncomputable def c59_6 : List It := [.op (some 40) none (.buildSlice 1 1 [.str []] [(0, 1, .t 39)]), .op (some 41) none (.append 1 16 (.t 35) (.t 40)), .op (some 4) none (.mv (.t 41))]
noncomputable def c59_7 : AC := .its (.op (some 35) none (.mv (.t 4)) :: .op (some 36) none (.mv (.t 9)) :: .op (some 37) none (.mv (.t 7)) :: .op (some 38) none (.buildSlice 1 2 [.str [], .str []] [(0, 1, .t 36), (1, 1, .t 37)]) :: .call (some 39) none (.c (.func (.func n_describe_join) [] [])) [.t 38] :: c59_6)
noncomputable def c59_8 : AC := .seq (.seq (.its ([.op (some 30) none (.mv (.t 5)), .op (some 31) none (.fieldAddr 0 (.t 1)), .op (some 32) none (.load none (.t 31)), .op (some 33) none (.len .slice (.t 32)), .op (some 34) none (.bin .lss (.t 30) (.t 33))])) c59_5) c59_7
noncomputable def c59_9 : AC := .seq (.its ([.op (some 9) none (.mv (.c (.str [115, 104, 111, 119])))])) c59_8
noncomputable def c59_10 : AC := .seq (.seq (.its ([.op (some 27) none (.mv (.t 8)), .op (some 28) none (.bin .neq (.t 27) (.c (.int .i64 0)))])) c59_3) c59_9
noncomputable def c59_11 : AC := .seq (.its (.op (some 23) none (.load (some 4) (.t 6)) :: .call (some 24) none (.c (.func (.func n_describe_Form) [] [])) [.t 23] :: c59_1)) c59_10
noncomputable def c59_12 : AC := .seq (.its ([.op (some 19) none (.mv (.t 17)), .op (some 20) none (.idxS 4 (.t 15) (.t 17)), .op (some 21) none (.load (some 4) (.t 20)), .op (some 6) none (.alloc [.int .u8 0, .str [], .slice none 0 (some 0) 0, .slice none 0 (some 0) 0]), .op (some 5) none (.mv (.t 19)), .op none none (.store 4 (.t 6) (.t 21))])) c59_11
noncomputable def c59_13 : AC := .its ([.op (some 42) none (.bin .add (.t 17) (.c (.int .i64 1))), .op (some 17) none (.mv (.t 42))])
noncomputable def c59_14 : AC := .seq (.block 1 c59_12) c59_13
noncomputable def c59_15 : AC := .seq (.cond (.t 18) .skip (.exit 0)) c59_14
noncomputable def c59_16 : AC := .seq (.its ([.op (some 18) none (.bin .lss (.t 17) (.t 16))])) c59_15
noncomputable def c59_17 : AC := .loop c59_16
noncomputable def c59_18 : AC := .block 0 c59_17
noncomputable def c59_19 : List It := [.op (some 2) none (.mv (.t 44)), .op (some 3) none (.mv (.c (.int .i64 0)))]
noncomputable def c59_20 : AC := .seq (.its (.op (some 43) none (.mv (.t 4)) :: .call (some 44) none (.c (.func (.func n_strings_Join) [] [])) [.t 43, .c (.str [44, 32])] :: c59_19)) .ret
noncomputable def c59_21 : AC := .seq (.seq (.its (.op (some 10) none (.fieldAddr 0 (.t 1)) :: .op (some 11) none (.load none (.t 10)) :: .op (some 12) none (.fieldAddr 1 (.t 1)) :: .op (some 13) none (.load none (.t 12)) :: .op (some 14) none (.buildSlice 1 2 [.slice none 0 (some 0) 0, .slice none 0 (some 0) 0] [(0, 1, .t 11), (1, 1, .t 13)]) :: .call (some 15) none (.c (.func (.func n_slices_Concat_api_Form) [] [])) [.t 14] :: c59_0)) c59_18) c59_20
noncomputable def c59_22 : AC := .seq (.its ([.op (some 4) none (.mv (.c (.slice none 0 (some 0) 0)))])) c59_21
noncomputable def c59_23 : AC := .seq (.its ([.op (some 1) none (.box (.t 0)), .op (some 2) none (.mv (.c (.str []))), .op (some 3) none (.mv (.c (.int .i64 0)))])) c59_22
noncomputable def i_describe_Claim : AFunc := ⟨45, [(2, none), (3, none)], c59_23⟩
theorem rf_describe_Claim : resF Go.Proofs.Tryz.prog n_describe_Claim = some i_describe_Claim := by kernel_rfl
noncomputable def c60_0 : List It := [.op (some 5) none (.mv (.t 7)), .op (some 8) none (.extract 0 (.t 5)), .op (some 9) none (.extract 1 (.t 5)), .op (some 3) none (.mv (.t 8)), .op (some 4) none (.mv (.t 9))]
noncomputable def c60_1 : List It := [.op (some 2) none (.mv (.t 22))]
noncomputable def c60_2 : List It := .op (some 21) none (.buildSlice 1 2 [.str [], .str []] [(0, 1, .t 15), (1, 1, .t 20)]) :: .call (some 22) none (.c (.func (.func n_describe_join) [] [])) [.t 21] :: c60_1
noncomputable def c60_3 : AC := .seq (.its (.op (some 15) none (.mv (.t 3)) :: .op (some 16) none (.fieldAddr 3 (.t 1)) :: .op (some 17) none (.load none (.t 16)) :: .op (some 18) none (.idxS 4 (.t 17) (.c (.int .i64 0))) :: .op (some 19) none (.load (some 4) (.t 18)) :: .call (some 20) none (.c (.func (.func n_describe_text) [] [])) [.t 19] :: c60_2)) .ret
noncomputable def c60_4 : List It := [.op (some 2) none (.mv (.t 38))]
noncomputable def c60_5 : List It := .op (some 37) none (.buildSlice 1 4 [.str [], .str [], .str [], .str []] [(0, 1, .t 25), (1, 1, .t 30), (2, 1, .t 31), (3, 1, .t 36)]) :: .call (some 38) none (.c (.func (.func n_describe_join) [] [])) [.t 37] :: c60_4
noncomputable def c60_6 : List It := .again 35 none (.load (some 4) (.t 34)) :: .again 33 none (.load none (.t 32)) :: .call (some 36) none (.c (.func (.func n_describe_text) [] [])) [.t 35] :: c60_5
noncomputable def c60_7 : AC := .seq (.its (.op (some 25) none (.mv (.t 3)) :: .op (some 26) none (.fieldAddr 3 (.t 1)) :: .op (some 27) none (.load none (.t 26)) :: .op (some 28) none (.idxS 4 (.t 27) (.c (.int .i64 0))) :: .op (some 29) none (.load (some 4) (.t 28)) :: .op (some 31) none (.mv (.t 4)) :: .op (some 32) none (.fieldAddr 3 (.t 1)) :: .op (some 33) none (.load none (.t 32)) :: .op (some 34) none (.idxS 4 (.t 33) (.c (.int .i64 1))) :: .op (some 35) none (.load (some 4) (.t 34)) :: .call (some 30) none (.c (.func (.func n_describe_text) [] [])) [.t 29] :: c60_6)) .ret
noncomputable def c60_8 : AC := .cond (.t 23) c60_7 .skip
noncomputable def c60_9 : AC := .seq (.its ([.op (some 24) none (.bin .eql (.t 12) (.c (.int .i64 2))), .op (some 23) none (.mv (.t 24))])) c60_8
noncomputable def c60_10 : AC := .cond (.t 13) c60_3 c60_9
noncomputable def c60_11 : AC := .seq (.its ([.op (some 14) none (.bin .eql (.t 12) (.c (.int .i64 1))), .op (some 13) none (.mv (.t 14))])) c60_10
noncomputable def c60_12 : AC := .block 0 c60_11
noncomputable def c60_13 : AC := .seq (.its ([.op (some 39) none (.mv (.t 3)), .op (some 2) none (.mv (.t 39))])) .ret
noncomputable def c60_14 : AC := .seq (.seq (.its ([.op (some 10) none (.fieldAddr 3 (.t 1)), .op (some 11) none (.load none (.t 10)), .op (some 12) none (.len .slice (.t 11))])) c60_12) c60_13
noncomputable def c60_15 : AC := .seq (.its (.op (some 6) none (.load (some 4) (.t 1)) :: .call (some 7) none (.c (.func (.func n_describe_head) [] [])) [.t 6] :: c60_0)) c60_14
noncomputable def c60_16 : AC := .seq (.its ([.op (some 1) none (.box (.t 0)), .op (some 2) none (.mv (.c (.str [])))])) c60_15
noncomputable def i_describe_text : AFunc := ⟨40, [(2, none)], c60_16⟩
theorem rf_describe_text : resF Go.Proofs.Tryz.prog n_describe_text = some i_describe_text := by kernel_rfl
noncomputable def c61_0 : List It := [.op (some 9) none (.buildSlice 3 5 [.bool false, .str [], .slice none 0 (some 0) 0, .bool false, .str [], .slice none 0 (some 0) 0, .bool false, .str [], .slice none 0 (some 0) 0, .bool false, .str [], .slice none 0 (some 0) 0, .bool false, .str [], .slice none 0 (some 0) 0] [(0, 3, .t 4), (3, 3, .t 5), (6, 3, .t 6), (9, 3, .t 7), (12, 3, .t 8)]), .op (some 10) none (.mv (.t 0)), .op (some 11) none (.bin .rem (.t 10) (.c (.int .u8 5))), .op (some 12) none (.idxS 3 (.t 9) (.t 11)), .op (some 13) none (.load (some 3) (.t 12)), .op (some 3) none (.alloc [.bool false, .str [], .slice none 0 (some 0) 0]), .op none none (.store 3 (.t 3) (.t 13))]
noncomputable def c61_1 : List It := .call (some 8) none (.c (.func (.func n_law30_apply) [] [])) [.c (.str [98]), .c (.slice none 0 (some 0) 0)] :: c61_0
noncomputable def c61_2 : List It := .call (some 7) none (.c (.func (.func n_law30_apply) [] [])) [.c (.str [97]), .c (.slice none 0 (some 0) 0)] :: c61_1
noncomputable def c61_3 : List It := .call (some 6) none (.c (.func (.func n_law30_variable) [] [])) [.c (.str [122])] :: c61_2
noncomputable def c61_4 : List It := .call (some 5) none (.c (.func (.func n_law30_variable) [] [])) [.c (.str [121])] :: c61_3
noncomputable def c61_5 : List It := [.op none none (.store 3 (.t 3) (.t 27))]
noncomputable def c61_6 : AC := .its (.op (some 18) none (.buildSlice 1 2 [.str [], .str []] [(0, 1, .c (.str [102])), (1, 1, .c (.str [103]))]) :: .op (some 19) none (.mv (.t 0)) :: .op (some 20) none (.bin .quo (.t 19) (.c (.int .u8 5))) :: .op (some 21) none (.bin .rem (.t 20) (.c (.int .u8 3))) :: .op (some 22) none (.bin .sub (.t 21) (.c (.int .u8 1))) :: .op (some 23) none (.idxS 1 (.t 18) (.t 22)) :: .op (some 24) none (.load none (.t 23)) :: .op (some 25) none (.load (some 3) (.t 3)) :: .op (some 26) none (.buildSlice 3 1 [.bool false, .str [], .slice none 0 (some 0) 0] [(0, 3, .t 25)]) :: .call (some 27) none (.c (.func (.func n_law30_apply) [] [])) [.t 24, .t 26] :: c61_5)
noncomputable def c61_7 : AC := .cond (.t 17) c61_6 .skip
noncomputable def c61_8 : AC := .seq (.its ([.op (some 28) none (.load (some 3) (.t 3)), .op none none (.store 3 (.t 2) (.t 28))])) .ret
noncomputable def c61_9 : AC := .seq (.seq (.its ([.op (some 14) none (.mv (.t 0)), .op (some 15) none (.bin .quo (.t 14) (.c (.int .u8 5))), .op (some 16) none (.bin .rem (.t 15) (.c (.int .u8 3))), .op (some 17) none (.bin .gtr (.t 16) (.c (.int .u8 0)))])) c61_7) c61_8
noncomputable def c61_10 : AC := .seq (.its (.call (some 4) none (.c (.func (.func n_law30_variable) [] [])) [.c (.str [120])] :: c61_4)) c61_9
noncomputable def c61_11 : AC := .seq (.its ([.op (some 2) none (.alloc [.bool false, .str [], .slice none 0 (some 0) 0])])) c61_10
noncomputable def i_law30_term : AFunc := ⟨29, [(2, some (some 3))], c61_11⟩
theorem rf_law30_term : resF Go.Proofs.Tryz.prog n_law30_term = some i_law30_term := by kernel_rfl
noncomputable def c62_0 : List It := [.op (some 5) none (.mv (.t 8))]
noncomputable def c62_1 : List It := [.op (some 6) none (.mv (.t 10))]
noncomputable def c62_2 : AC := .seq (.its ([.op (some 4) none (.mv (.c (.int .i64 0)))])) .ret
noncomputable def c62_3 : AC := .cond (.t 12) c62_2 .skip
noncomputable def c62_4 : AC := .seq (.its ([.op (some 4) none (.mv (.c (.int .i64 (-1))))])) .ret
noncomputable def c62_5 : AC := .seq (.seq (.its ([.op (some 12) none (.mv (.t 6))])) c62_3) c62_4
noncomputable def c62_6 : AC := .cond (.t 11) c62_5 .skip
noncomputable def c62_7 : AC := .seq (.its ([.op (some 4) none (.mv (.c (.int .i64 1)))])) .ret
noncomputable def c62_8 : AC := .cond (.t 13) c62_7 .skip
noncomputable def c62_9 : AC := .seq (.its ([.op (some 4) none (.mv (.c (.int .i64 (-1))))])) .ret
noncomputable def c62_10 : AC := .cond (.t 16) c62_9 .skip
noncomputable def c62_11 : AC := .seq (.its ([.op (some 4) none (.mv (.c (.int .i64 1)))])) .ret
noncomputable def c62_12 : AC := .cond (.t 19) c62_11 .skip
noncomputable def c62_13 : AC := .seq (.its ([.op (some 4) none (.mv (.c (.int .i64 0)))])) .ret
noncomputable def c62_14 : AC := .seq (.seq (.its ([.op (some 17) none (.mv (.t 0)), .op (some 18) none (.mv (.t 1)), .op (some 19) none (.bin .gtr (.t 17) (.t 18))])) c62_12) c62_13
noncomputable def c62_15 : AC := .seq (.seq (.its ([.op (some 14) none (.mv (.t 0)), .op (some 15) none (.mv (.t 1)), .op (some 16) none (.bin .lss (.t 14) (.t 15))])) c62_10) c62_14
noncomputable def c62_16 : AC := .seq (.seq (.its ([.op (some 13) none (.mv (.t 6))])) c62_8) c62_15
noncomputable def c62_17 : AC := .seq (.seq (.its ([.op (some 11) none (.mv (.t 5))])) c62_6) c62_16
noncomputable def c62_18 : AC := .seq (.its (.op (some 9) none (.mv (.t 1)) :: .call (some 10) none (.c (.func (.func n_cmp_isNaN_int) [] [])) [.t 9] :: c62_1)) c62_17
noncomputable def c62_19 : AC := .seq (.its (.op (some 7) none (.mv (.t 0)) :: .call (some 8) none (.c (.func (.func n_cmp_isNaN_int) [] [])) [.t 7] :: c62_0)) c62_18
noncomputable def c62_20 : AC := .seq (.its ([.op (some 4) none (.mv (.c (.int .i64 0)))])) c62_19
noncomputable def i_cmp_Compare_int : AFunc := ⟨20, [(4, none)], c62_20⟩
theorem rf_cmp_Compare_int : resF Go.Proofs.Tryz.prog n_cmp_Compare_int = some i_cmp_Compare_int := by kernel_rfl
noncomputable def c63_0 : AC := .seq (.its ([.op (some 1) none (.build [.int .u8 0, .str [], .str []] [(0, 1, .c (.int .u8 2)), (1, 1, .c (.str [102, 97, 108, 115, 101])), (2, 1, .c (.str []))]), .op (some 2) none (.build [.int .u8 0, .str [], .str []] [(0, 1, .c (.int .u8 3)), (1, 1, .c (.str [110, 111, 116])), (2, 1, .c (.str []))]), .op (some 3) none (.build [.int .u8 0, .str [], .str []] [(0, 1, .c (.int .u8 10)), (1, 1, .c (.str [110, 101, 99, 101, 115, 115, 97, 114, 105, 108, 121])), (2, 1, .c (.str []))]), .op (some 4) none (.build [.int .u8 0, .str [], .str []] [(0, 1, .c (.int .u8 11)), (1, 1, .c (.str [112, 111, 115, 115, 105, 98, 108, 121])), (2, 1, .c (.str []))]), .op (some 5) none (.build [.int .u8 0, .str [], .str []] [(0, 1, .c (.int .u8 12)), (1, 1, .c (.str [110, 101, 120, 116])), (2, 1, .c (.str []))]), .op (some 6) none (.build [.int .u8 0, .str [], .str []] [(0, 1, .c (.int .u8 13)), (1, 1, .c (.str [97, 108, 119, 97, 121, 115])), (2, 1, .c (.str []))]), .op (some 7) none (.build [.int .u8 0, .str [], .str []] [(0, 1, .c (.int .u8 4)), (1, 1, .c (.str [98, 111, 116, 104])), (2, 1, .c (.str [97, 110, 100]))]), .op (some 8) none (.build [.int .u8 0, .str [], .str []] [(0, 1, .c (.int .u8 5)), (1, 1, .c (.str [101, 105, 116, 104, 101, 114])), (2, 1, .c (.str [111, 114]))]), .op (some 9) none (.build [.int .u8 0, .str [], .str []] [(0, 1, .c (.int .u8 6)), (1, 1, .c (.str [105, 102])), (2, 1, .c (.str [116, 104, 101, 110]))]), .op (some 10) none (.build [.int .u8 0, .str [], .str []] [(0, 1, .c (.int .u8 7)), (1, 1, .c (.str [97, 115])), (2, 1, .c (.str [115, 111]))]), .op (some 11) none (.build [.int .u8 0, .str [], .str []] [(0, 1, .c (.int .u8 14)), (1, 1, .c (.str [119, 104, 105, 108, 101])), (2, 1, .c (.str [117, 110, 116, 105, 108]))]), .op (some 12) none (.buildSlice 3 11 [.int .u8 0, .str [], .str [], .int .u8 0, .str [], .str [], .int .u8 0, .str [], .str [], .int .u8 0, .str [], .str [], .int .u8 0, .str [], .str [], .int .u8 0, .str [], .str [], .int .u8 0, .str [], .str [], .int .u8 0, .str [], .str [], .int .u8 0, .str [], .str [], .int .u8 0, .str [], .str [], .int .u8 0, .str [], .str []] [(0, 3, .t 1), (3, 3, .t 2), (6, 3, .t 3), (9, 3, .t 4), (12, 3, .t 5), (15, 3, .t 6), (18, 3, .t 7), (21, 3, .t 8), (24, 3, .t 9), (27, 3, .t 10), (30, 3, .t 11)]), .op (some 0) none (.mv (.t 12))])) .ret
noncomputable def c63_1 : AC := .seq (.its ([.op (some 0) none (.mv (.c (.slice none 0 (some 0) 0)))])) c63_0
noncomputable def i_describe_patterns : AFunc := ⟨13, [(0, none)], c63_1⟩
theorem rf_describe_patterns : resF Go.Proofs.Tryz.prog n_describe_patterns = some i_describe_patterns := by kernel_rfl
noncomputable def c64_0 : AC := .seq (.its ([.op (some 4) none (.mv (.c (.bool false)))])) .ret
noncomputable def c64_1 : AC := .cond (.t 10) c64_0 .skip
noncomputable def c64_2 : AC := .cond (.t 14) .skip (.exit 0)
noncomputable def c64_3 : List It := [.op (some 26) none (.un .not (.t 25))]
noncomputable def c64_4 : AC := .seq (.its ([.op (some 4) none (.mv (.c (.bool false)))])) .ret
noncomputable def c64_5 : AC := .cond (.t 26) c64_4 .skip
noncomputable def c64_6 : AC := .seq (.its (.op (some 17) none (.mv (.t 0)) :: .op (some 18) none (.mv (.t 5)) :: .op (some 19) none (.idxS 8 (.t 17) (.t 18)) :: .op (some 20) none (.load (some 8) (.t 19)) :: .op (some 21) none (.mv (.t 1)) :: .op (some 22) none (.mv (.t 5)) :: .op (some 23) none (.idxS 8 (.t 21) (.t 22)) :: .op (some 24) none (.load (some 8) (.t 23)) :: .call (some 25) none (.c (.func (.func n_kit_SameProof) [] [])) [.t 20, .t 24] :: c64_3)) c64_5
noncomputable def c64_7 : AC := .its ([.op (some 15) none (.mv (.t 5)), .op (some 16) none (.bin .add (.t 15) (.c (.int .i64 1))), .op (some 5) none (.mv (.t 16))])
noncomputable def c64_8 : AC := .seq (.block 1 c64_6) c64_7
noncomputable def c64_9 : AC := .seq (.seq (.its ([.op (some 11) none (.mv (.t 5)), .op (some 12) none (.mv (.t 0)), .op (some 13) none (.len .slice (.t 12)), .op (some 14) none (.bin .lss (.t 11) (.t 13))])) c64_2) c64_8
noncomputable def c64_10 : AC := .loop c64_9
noncomputable def c64_11 : AC := .block 0 c64_10
noncomputable def c64_12 : AC := .seq (.its ([.op (some 4) none (.mv (.c (.bool true)))])) .ret
noncomputable def c64_13 : AC := .seq (.seq (.its ([.op (some 5) none (.mv (.c (.int .i64 0)))])) c64_11) c64_12
noncomputable def c64_14 : AC := .seq (.seq (.its ([.op (some 6) none (.mv (.t 0)), .op (some 7) none (.len .slice (.t 6)), .op (some 8) none (.mv (.t 1)), .op (some 9) none (.len .slice (.t 8)), .op (some 10) none (.bin .neq (.t 7) (.t 9))])) c64_1) c64_13
noncomputable def c64_15 : AC := .seq (.its ([.op (some 4) none (.mv (.c (.bool false)))])) c64_14
noncomputable def i_kit_SameProofs : AFunc := ⟨27, [(4, none)], c64_15⟩
theorem rf_kit_SameProofs : resF Go.Proofs.Tryz.prog n_kit_SameProofs = some i_kit_SameProofs := by kernel_rfl
noncomputable def c65_0 : AC := .seq (.its ([.op (some 17) none (.mv (.t 5)), .op (some 4) none (.mv (.t 17))])) .ret
noncomputable def c65_1 : AC := .cond (.t 16) c65_0 .skip
noncomputable def c65_2 : AC := .seq (.its ([.op (some 11) none (.mv (.t 1)), .op (some 12) none (.mv (.t 0)), .op (some 13) none (.mv (.t 5)), .op (some 14) none (.idxS 3 (.t 12) (.t 13)), .op (some 15) none (.load (some 3) (.t 14)), .call (some 16) none (.t 11) [.t 15]])) c65_1
noncomputable def c65_3 : AC := .seq (.its ([.op (some 10) none (.mv (.t 8)), .op (some 5) none (.mv (.t 10))])) c65_2
noncomputable def c65_4 : AC := .its ([.op (some 18) none (.bin .add (.t 8) (.c (.int .i64 1))), .op (some 8) none (.mv (.t 18))])
noncomputable def c65_5 : AC := .seq (.block 1 c65_3) c65_4
noncomputable def c65_6 : AC := .seq (.cond (.t 9) .skip (.exit 0)) c65_5
noncomputable def c65_7 : AC := .seq (.its ([.op (some 9) none (.bin .lss (.t 8) (.t 7))])) c65_6
noncomputable def c65_8 : AC := .loop c65_7
noncomputable def c65_9 : AC := .block 0 c65_8
noncomputable def c65_10 : AC := .seq (.its ([.op (some 4) none (.mv (.c (.int .i64 (-1))))])) .ret
noncomputable def c65_11 : AC := .seq (.seq (.its ([.op (some 6) none (.mv (.t 0)), .op (some 7) none (.len .slice (.t 6)), .op (some 8) none (.mv (.c (.int .i64 0)))])) c65_9) c65_10
noncomputable def c65_12 : AC := .seq (.its ([.op (some 4) none (.mv (.c (.int .i64 0)))])) c65_11
noncomputable def i_slices_IndexFunc_describe_pattern : AFunc := ⟨19, [(4, none)], c65_12⟩
theorem rf_slices_IndexFunc_describe_pattern : resF Go.Proofs.Tryz.prog n_slices_IndexFunc_describe_pattern = some i_slices_IndexFunc_describe_pattern := by kernel_rfl
noncomputable def c66_0 : AC := .seq (.its ([.op (some 4) none (.mv (.c (.bool false)))])) .ret
noncomputable def c66_1 : AC := .cond (.t 10) c66_0 .skip
noncomputable def c66_2 : AC := .cond (.t 14) .skip (.exit 0)
noncomputable def c66_3 : AC := .seq (.its ([.op (some 4) none (.mv (.c (.bool false)))])) .ret
noncomputable def c66_4 : AC := .cond (.t 25) c66_3 .skip
noncomputable def c66_5 : AC := .seq (.its ([.op (some 17) none (.mv (.t 0)), .op (some 18) none (.mv (.t 5)), .op (some 19) none (.idxS 1 (.t 17) (.t 18)), .op (some 20) none (.load none (.t 19)), .op (some 21) none (.mv (.t 1)), .op (some 22) none (.mv (.t 5)), .op (some 23) none (.idxS 1 (.t 21) (.t 22)), .op (some 24) none (.load none (.t 23)), .op (some 25) none (.bin .neq (.t 20) (.t 24))])) c66_4
noncomputable def c66_6 : AC := .its ([.op (some 15) none (.mv (.t 5)), .op (some 16) none (.bin .add (.t 15) (.c (.int .i64 1))), .op (some 5) none (.mv (.t 16))])
noncomputable def c66_7 : AC := .seq (.block 1 c66_5) c66_6
noncomputable def c66_8 : AC := .seq (.seq (.its ([.op (some 11) none (.mv (.t 5)), .op (some 12) none (.mv (.t 0)), .op (some 13) none (.len .slice (.t 12)), .op (some 14) none (.bin .lss (.t 11) (.t 13))])) c66_2) c66_7
noncomputable def c66_9 : AC := .loop c66_8
noncomputable def c66_10 : AC := .block 0 c66_9
noncomputable def c66_11 : AC := .seq (.its ([.op (some 4) none (.mv (.c (.bool true)))])) .ret
noncomputable def c66_12 : AC := .seq (.seq (.its ([.op (some 5) none (.mv (.c (.int .i64 0)))])) c66_10) c66_11
noncomputable def c66_13 : AC := .seq (.seq (.its ([.op (some 6) none (.mv (.t 0)), .op (some 7) none (.len .slice (.t 6)), .op (some 8) none (.mv (.t 1)), .op (some 9) none (.len .slice (.t 8)), .op (some 10) none (.bin .neq (.t 7) (.t 9))])) c66_1) c66_12
noncomputable def c66_14 : AC := .seq (.its ([.op (some 4) none (.mv (.c (.bool false)))])) c66_13
noncomputable def i_kit_SameTexts : AFunc := ⟨26, [(4, none)], c66_14⟩
theorem rf_kit_SameTexts : resF Go.Proofs.Tryz.prog n_kit_SameTexts = some i_kit_SameTexts := by kernel_rfl
noncomputable def c67_0 : AC := .seq (.its ([.op (some 17) none (.mv (.t 5)), .op (some 4) none (.mv (.t 17))])) .ret
noncomputable def c67_1 : AC := .cond (.t 16) c67_0 .skip
noncomputable def c67_2 : AC := .seq (.its ([.op (some 11) none (.mv (.t 1)), .op (some 12) none (.mv (.t 0)), .op (some 13) none (.mv (.t 5)), .op (some 14) none (.idxS 3 (.t 12) (.t 13)), .op (some 15) none (.load (some 3) (.t 14)), .call (some 16) none (.t 11) [.t 15]])) c67_1
noncomputable def c67_3 : AC := .seq (.its ([.op (some 10) none (.mv (.t 8)), .op (some 5) none (.mv (.t 10))])) c67_2
noncomputable def c67_4 : AC := .its ([.op (some 18) none (.bin .add (.t 8) (.c (.int .i64 1))), .op (some 8) none (.mv (.t 18))])
noncomputable def c67_5 : AC := .seq (.block 1 c67_3) c67_4
noncomputable def c67_6 : AC := .seq (.cond (.t 9) .skip (.exit 0)) c67_5
noncomputable def c67_7 : AC := .seq (.its ([.op (some 9) none (.bin .lss (.t 8) (.t 7))])) c67_6
noncomputable def c67_8 : AC := .loop c67_7
noncomputable def c67_9 : AC := .block 0 c67_8
noncomputable def c67_10 : AC := .seq (.its ([.op (some 4) none (.mv (.c (.int .i64 (-1))))])) .ret
noncomputable def c67_11 : AC := .seq (.seq (.its ([.op (some 6) none (.mv (.t 0)), .op (some 7) none (.len .slice (.t 6)), .op (some 8) none (.mv (.c (.int .i64 0)))])) c67_9) c67_10
noncomputable def c67_12 : AC := .seq (.its ([.op (some 4) none (.mv (.c (.int .i64 0)))])) c67_11
noncomputable def i_slices_IndexFunc_api_Term : AFunc := ⟨19, [(4, none)], c67_12⟩
theorem rf_slices_IndexFunc_api_Term : resF Go.Proofs.Tryz.prog n_slices_IndexFunc_api_Term = some i_slices_IndexFunc_api_Term := by kernel_rfl
noncomputable def c68_0 : AC := .its ([.op (some 4) none (.alloc [.int .u8 0, .str [], .slice none 0 (some 0) 0, .slice none 0 (some 0) 0]), .op none none (.store 4 (.t 4) (.t 7))])
noncomputable def c68_1 : AC := .its ([.op (some 14) none (.load none (.t 3)), .op (some 15) none (.bin .add (.t 14) (.c (.int .i64 1))), .op none none (.store 1 (.t 3) (.t 15))])
noncomputable def c68_2 : AC := .block 3 c68_1
noncomputable def c68_3 : AC := .rangef (.t 12) [13] .skip c68_2
noncomputable def c68_4 : AC := .block 2 c68_3
noncomputable def c68_5 : AC := .seq (.its ([.op (some 10) none (.fieldAddr 2 (.t 4)), .op (some 11) none (.load none (.t 10)), .call (some 12) none (.c (.func (.func n_syntax_terms) [] [])) [.t 11]])) c68_4
noncomputable def c68_6 : AC := .seq (.its ([.op (some 8) none (.load none (.t 3)), .op (some 9) none (.bin .add (.t 8) (.c (.int .i64 1))), .op none none (.store 1 (.t 3) (.t 9))])) c68_5
noncomputable def c68_7 : AC := .block 1 c68_6
noncomputable def c68_8 : AC := .rangef (.t 6) [7] c68_0 c68_7
noncomputable def c68_9 : AC := .block 0 c68_8
noncomputable def c68_10 : AC := .seq (.its ([.op (some 16) none (.load none (.t 3)), .op (some 2) none (.mv (.t 16))])) .ret
noncomputable def c68_11 : AC := .seq (.seq (.its ([.op (some 5) none (.load (some 4) (.t 1)), .call (some 6) none (.c (.func (.func n_syntax_all) [] [])) [.t 5]])) c68_9) c68_10
noncomputable def c68_12 : AC := .seq (.its ([.op (some 3) none (.alloc [.int .i64 0]), .op none none (.store 1 (.t 3) (.c (.int .i64 0)))])) c68_11
noncomputable def c68_13 : AC := .seq (.its ([.op (some 1) none (.box (.t 0)), .op (some 2) none (.mv (.c (.int .i64 0)))])) c68_12
noncomputable def i_syntax_Nodes : AFunc := ⟨17, [(2, none)], c68_13⟩
theorem rf_syntax_Nodes : resF Go.Proofs.Tryz.prog n_syntax_Nodes = some i_syntax_Nodes := by kernel_rfl
noncomputable def i_frame_Valid : AFunc := ⟨60, [(2, none)], qa [qo 1 (.box (.t 0)), qk 2 (.bool false)] (.seq (qa [qo 3 (.fieldAddr 0 (.t 1)), ql 4 3, qb 5 .neq (.t 4) (.c (qu 3)), qm 6 5, qg 7 6 true (.fieldAddr 0 (.t 1)), qg 8 6 true (.load none (.t 7)), qg 9 6 true (.bin .neq (.t 8) (.c (qu 4))), qq 10 6 9, qm 11 10, qg 12 11 false (.fieldAddr 1 (.t 1)), qg 13 11 false (.load none (.t 12)), qg 14 11 false (.fieldAddr 2 (.t 1)), qg 15 11 false (.load none (.t 14)), qg 16 11 false (.len .slice (.t 15)), qg 17 11 false (.bin .neq (.t 13) (.t 16)), qp 18 11 17, qm 19 18, qg 20 19 false (.fieldAddr 2 (.t 1)), qg 21 19 false (.load none (.t 20)), .call (some 22) (some (19, false)) (.c (qf 243)) [.t 21], qg 23 19 false (.un .not (.t 22)), qp 24 19 23, qm 25 24, qg 26 25 false (.load (some 7) (.t 1)), .call (some 27) (some (25, false)) (.c (qf 245)) [.t 26], .call (some 28) (some (25, false)) (.c (qf 244)) [.t 27], qg 29 25 false (.un .not (.t 28)), qp 30 25 29, qm 31 30, qg 32 31 false (.fieldAddr 5 (.t 1)), qg 33 31 false (.load none (.t 32)), qg 34 31 false (.len .slice (.t 33)), qg 35 31 false (.fieldAddr 6 (.t 1)), qg 36 31 false (.load none (.t 35)), qg 37 31 false (.len .slice (.t 36)), qg 38 31 false (.bin .add (.t 34) (.t 37)), qg 39 31 false (.bin .gtr (.t 38) (qx 0)), qp 40 31 39, qm 41 40, qg 42 41 false (.fieldAddr 3 (.t 1)), qg 43 41 false (.load none (.t 42)), qg 44 41 false (.bin .neq (.t 43) (qx 0)), qp 45 41 44] (.cond (.t 45) (qa [qk 2 (.bool false)] .ret) .skip)) (.seq (qa [qo 46 (.fieldAddr 0 (.t 1)), ql 47 46, qb 48 .eql (.t 47) (.c (qu 3)), qm 49 48, qg 50 49 true (.fieldAddr 2 (.t 1)), qg 51 49 true (.load none (.t 50)), .call (some 52) (some (49, true)) (.c (qf 246)) [.t 51], qg 53 49 true (.un .not (.t 52)), qq 54 49 53] (.cond (.t 54) (qa [qk 2 (.bool false)] .ret) .skip)) (qa [qo 55 (.fieldAddr 4 (.t 1)), ql 56 55, qo 57 (.mkFunc (.func 247) [] [.t 1]), qc 58 213 [.t 56, .t 57], qo 59 (.un .not (.t 58)), qm 2 59] .ret)))⟩
theorem rf_frame_Valid : resF Go.Proofs.Tryz.prog 241 = some i_frame_Valid := by kernel_rfl
noncomputable def c69_0 : AC := .seq (.its ([.op (some 15) none (.mv (.t 5)), .op (some 2) none (.mv (.t 15))])) .ret
noncomputable def c69_1 : AC := .cond (.t 14) c69_0 .skip
noncomputable def c69_2 : AC := .seq (.its ([.op (some 12) none (.mv (.t 5)), .op (some 13) none (.mv (.t 3)), .op (some 14) none (.bin .neq (.t 12) (.t 13))])) c69_1
noncomputable def c69_3 : AC := .seq (.its ([.op (some 10) none (.idxS 1 (.t 6) (.t 8)), .op (some 11) none (.load none (.t 10)), .op (some 5) none (.mv (.t 11))])) c69_2
noncomputable def c69_4 : AC := .its ([.op (some 16) none (.bin .add (.t 8) (.c (.int .i64 1))), .op (some 8) none (.mv (.t 16))])
noncomputable def c69_5 : AC := .seq (.block 1 c69_3) c69_4
noncomputable def c69_6 : AC := .seq (.cond (.t 9) .skip (.exit 0)) c69_5
noncomputable def c69_7 : AC := .seq (.its ([.op (some 9) none (.bin .lss (.t 8) (.t 7))])) c69_6
noncomputable def c69_8 : AC := .loop c69_7
noncomputable def c69_9 : AC := .block 0 c69_8
noncomputable def c69_10 : AC := .seq (.its ([.op (some 17) none (.mv (.t 3)), .op (some 2) none (.mv (.t 17))])) .ret
noncomputable def c69_11 : AC := .seq (.seq (.its ([.op (some 6) none (.mv (.t 0)), .op (some 7) none (.len .slice (.t 6)), .op (some 8) none (.mv (.c (.int .i64 0)))])) c69_9) c69_10
noncomputable def c69_12 : AC := .seq (.its ([.op (some 3) none (.mv (.c (.int .i64 0)))])) c69_11
noncomputable def c69_13 : AC := .seq (.its ([.op (some 2) none (.mv (.c (.int .i64 0)))])) c69_12
noncomputable def i_cmp_Or_int : AFunc := ⟨18, [(2, none)], c69_13⟩
theorem rf_cmp_Or_int : resF Go.Proofs.Tryz.prog n_cmp_Or_int = some i_cmp_Or_int := by kernel_rfl
noncomputable def i_describe_Read : AFunc := ⟨44, [(2, some (some 4)), (3, none), (4, none)], qa [qo 2 (.alloc [qu 0, .str [], .slice none 0 (some 0) 0, .slice none 0 (some 0) 0]), qk 3 (qi 0), qk 4 (qi 0)] (.seq (qa [qm 9 0, qo 10 (.len .str (.t 9)), qb 11 .gtr (.t 10) (qx 16384)] (.cond (.t 11) (qa [qo 12 (.build [qu 0, .str [], .slice none 0 (some 0) 0, .slice none 0 (some 0) 0] []), qs 4 2 12, qk 3 (qi 0), qk 4 (qi 3)] .ret) .skip)) (qa [qk 5 (.slice none 0 (some 0) 0)] (.seq (qa [qm 13 0, qb 14 .neq (.t 13) (qy [])] (.cond (.t 14) (.its [qm 15 0, qc 16 42 [.t 15, qy [32]], qm 5 16]) .skip)) (qa [qm 18 5, qc 19 43 [.t 18], qm 17 19, qe 20 0 17, qe 21 1 17, qo 6 (.alloc [.nilFunc, .nilFunc, .nilFunc, .map none]), qs 4 6 20, qm 7 21] (qa [qn 22 4 6, qc 23 44 [.t 22], qo 8 (.alloc [qu 0, .str [], .slice none 0 (some 0) 0, .slice none 0 (some 0) 0]), qs 4 8 23] (.seq (.block 0 (qa [qo 25 (.fieldAddr 2 (.t 6)), ql 26 25, .call (some 27) none (.t 26) [], qm 28 27, qh 29 28 false 7, .call (some 30) (some (28, false)) (.t 29) [], qh 31 28 false 5, qg 32 28 false (.len .slice (.t 31)), qg 33 28 false (.bin .lss (.t 30) (.t 32)), qp 34 28 33, qm 24 34] (.cond (.t 24) (qa [qo 35 (.build [qu 0, .str [], .slice none 0 (some 0) 0, .slice none 0 (some 0) 0] []), qm 36 7, .call (some 37) none (.t 36) [], qs 4 2 35, qm 3 37, qk 4 (qi 410)] .ret) (qa [qn 39 4 8, qc 40 28 [.t 39], qo 41 (.un .not (.t 40)), qm 38 41] (.cond (.t 38) (qa [qo 42 (.build [qu 0, .str [], .slice none 0 (some 0) 0, .slice none 0 (some 0) 0] []), qs 4 2 42, qk 3 (qi 0), qk 4 (qi 2)] .ret) .skip))))) (qa [qn 43 4 8, qs 4 2 43, qk 3 (qi 0), qk 4 (qi 0)] .ret)))))))⟩
theorem rf_describe_Read : resF Go.Proofs.Tryz.prog 19 = some i_describe_Read := by kernel_rfl
noncomputable def i_holds_of : AFunc := ⟨41, [(2, none), (3, none)], qa [qo 1 (.box (.t 0)), qk 2 .nilIface, qk 3 (.bool false)] (.seq (qa [qo 5 (.fieldAddr 2 (.t 1)), ql 6 5, qb 7 .lss (.t 6) (.c (qu 1)), qm 8 7, qg 9 8 false (.fieldAddr 2 (.t 1)), qg 10 8 false (.load none (.t 9)), qg 11 8 false (.bin .gtr (.t 10) (.c (qu 5))), qp 12 8 11] (.cond (.t 12) (qa [qk 2 .nilIface, qk 3 (.bool false)] .ret) .skip)) (qa [qo 13 (.fieldAddr 3 (.t 1)), ql 14 13, qo 16 (.fieldAddr 2 (.t 1)), ql 17 16, qc 15 121 [.t 14], .again 17 none (.load none (.t 16)), qo 18 (.idxArr 6 1 none (.t 15) (.t 17)), qm 4 18] (qa [qm 19 4, qo 20 (.fieldAddr 1 (.t 1)), ql 21 20, qm 22 4, .inv (some 23) none [(198, 193), (199, 205), (201, 237), (202, 262)] (.t 22) [], .again 21 none (.load none (.t 20)), qv 24 .andNot 21 23, qb 25 .eql (.t 24) (.c (.int .u32 0)), qm 26 25, qg 27 26 true (.fieldAddr 3 (.t 1)), qg 28 26 true (.load none (.t 27)), qg 29 26 true (.bin .leq (.t 28) (.c (qu 7))), qq 30 26 29, qm 31 30, qg 32 31 true (.fieldAddr 3 (.t 1)), qg 33 31 true (.load none (.t 32)), qg 34 31 true (.bin .eql (.t 33) (.c (qu 0))), qh 35 31 true 34, qg 36 35 false (.fieldAddr 2 (.t 1)), qg 37 35 false (.load none (.t 36)), qg 38 35 false (.bin .eql (.t 37) (.c (qu 4))), qg 39 31 true (.pick (.t 35) (.c (.bool true)) (.t 38)), qq 40 31 39, qm 2 19, .again 37 (some (35, false)) (.load none (.t 36)), qm 3 40] .ret)))⟩
theorem rf_holds_of : resF Go.Proofs.Tryz.prog 86 = some i_holds_of := by kernel_rfl
noncomputable def i_frame_grow : AFunc := ⟨48, [(4, none)], qa [qk 4 (.bool false)] (qa [qk 5 (.bool false)] (.seq (qa [qc 10 255 [], qk 11 (qi 0)] (.block 0 (.loop (qa [qb 12 .lss (.t 11) (qx 3)] (.seq (.cond (.t 12) .skip (.exit 0)) (.seq (.block 1 (qa [qm 13 11, qo 14 (.idxArr 3 1 none (.t 10) (.t 11)), qm 6 13, qm 7 14] (qa [qm 15 0, qo 16 (.len .slice (.t 15)), qk 17 (qi 0)] (.block 2 (.loop (qa [qv 18 .lss 17 16] (.seq (.cond (.t 18) .skip (.exit 2)) (.seq (.block 3 (qa [qm 19 17, qm 8 19] (qa [qm 20 7, qm 21 0, qm 22 8, qm 24 0, qm 25 8, qo 26 (.idxS 1 (.t 24) (.t 25)), ql 27 26, .call (some 23) none (.t 20) [.t 21, .t 22], .again 27 none (.load none (.t 26)), qv 28 .andNot 23 27, qm 9 28] (qa [qm 29 1, qm 30 6, qv 31 .shr 29 30, qb 32 .and (.t 31) (.c (qu 1)), qb 33 .eql (.t 32) (.c (qu 1)), qm 34 33, qh 35 34 true 9, qg 36 34 true (.bin .neq (.t 35) (qx 0)), qq 37 34 36] (.cond (.t 37) (qa [qm 38 0, qm 39 8, qo 40 (.idxS 1 (.t 38) (.t 39)), ql 41 40, qm 42 9, qv 43 .or 41 42, qo 44 (.idxS 1 (.t 38) (.t 39)), qs 1 44 43] (.its [qk 5 (.bool true)])) .skip))))) (.its [qb 45 .add (.t 17) (qx 1), qm 17 45]))))))))) (.its [qb 46 .add (.t 11) (qx 1), qm 11 46]))))))) (qa [qm 47 5, qm 4 47] .ret)))⟩
theorem rf_frame_grow : resF Go.Proofs.Tryz.prog 250 = some i_frame_grow := by kernel_rfl
noncomputable def i_frame_ValidS1 : AFunc := ⟨31, [(3, none)], qa [qo 2 (.box (.t 0)), qk 3 (.bool false)] (qa [qo 4 (.fieldAddr 1 (.t 2)), ql 5 4, qb 6 .neq (.t 5) (qx 0), qm 7 6, qg 8 7 false (.fieldAddr 2 (.t 2)), qg 9 7 false (.load none (.t 8)), qg 10 7 false (.bin .lss (.t 9) (qx 0)), qp 11 7 10, qm 12 11, qg 13 12 false (.fieldAddr 2 (.t 2)), qg 14 12 false (.load none (.t 13)), qg 15 12 false (.fieldAddr 1 (.t 1)), qg 16 12 false (.load none (.t 15)), qg 17 12 false (.bin .shl (qx 1) (.t 16)), qg 18 12 false (.bin .geq (.t 14) (.t 17)), qp 19 12 18, qm 20 19, qg 21 20 false (.fieldAddr 0 (.t 1)), qg 22 20 false (.load none (.t 21)), qg 23 20 false (.fieldAddr 2 (.t 1)), qg 24 20 false (.load none (.t 23)), qg 26 20 false (.fieldAddr 2 (.t 2)), qg 27 20 false (.load none (.t 26)), .call (some 25) (some (20, false)) (.c (qf 249)) [.t 22, .t 24], .again 27 (some (20, false)) (.load none (.t 26)), .call (some 28) (some (20, false)) (.c (qf 248)) [.t 25, .t 27], qg 29 20 false (.un .not (.t 28)), qp 30 20 29, qm 3 30] .ret)⟩
theorem rf_frame_ValidS1 : resF Go.Proofs.Tryz.prog 247 = some i_frame_ValidS1 := by kernel_rfl
noncomputable def c70_0 : List It := [.op (some 9) (some (6, true)) (.bin .leq (.t 8) (.c (.int .i64 40))), .op (some 10) none (.pick (.t 6) (.t 9) (.c (.bool false))), .op (some 2) none (.mv (.t 10))]
noncomputable def c70_1 : List It := .op (some 5) none (.bin .leq (.t 4) (.c (.int .i64 400))) :: .op (some 6) none (.mv (.t 5)) :: .op (some 7) (some (6, true)) (.load (some 4) (.t 1)) :: .call (some 8) (some (6, true)) (.c (.func (.func n_syntax_Depth) [] [])) [.t 7] :: c70_0
noncomputable def c70_2 : AC := .seq (.its (.op (some 3) none (.load (some 4) (.t 1)) :: .call (some 4) none (.c (.func (.func n_syntax_Nodes) [] [])) [.t 3] :: c70_1)) .ret
noncomputable def c70_3 : AC := .seq (.its ([.op (some 1) none (.box (.t 0)), .op (some 2) none (.mv (.c (.bool false)))])) c70_2
noncomputable def i_syntax_fits : AFunc := ⟨11, [(2, none)], c70_3⟩
theorem rf_syntax_fits : resF Go.Proofs.Tryz.prog n_syntax_fits = some i_syntax_fits := by kernel_rfl
noncomputable def i_describe_bits : AFunc := ⟨25, [(2, none)], qa [qk 2 (.str [])] (qa [qk 3 (.slice none 0 (some 0) 0)] (.seq (qa [qk 4 (qi 0)] (.block 0 (.loop (.seq (qa [qm 5 0, qm 6 4, qv 7 .shr 5 6, qb 8 .neq (.t 7) (qx 0)] (.cond (.t 8) .skip (.exit 0))) (.seq (.block 1 (qa [qm 11 0, qm 12 4, qv 13 .shr 11 12, qb 14 .and (.t 13) (qx 1), qb 15 .eql (.t 14) (qx 1)] (.cond (.t 15) (.its [qm 16 3, qm 17 4, qo 18 (.buildSlice 1 1 [qi 0] [(0, 1, .t 17)]), qo 19 (.append 1 8 (.t 16) (.t 18)), qm 3 19]) .skip))) (.its [qm 9 4, qb 10 .add (.t 9) (qx 1), qm 4 10])))))) (.seq (qa [qm 20 3, qo 21 (.len .slice (.t 20)), qb 22 .eql (.t 21) (qx 0)] (.cond (.t 22) (qa [qk 2 (.str [110, 111, 116, 104, 105, 110, 103])] .ret) .skip)) (qa [qm 23 3, qc 24 36 [.t 23], qm 2 24] .ret))))⟩
theorem rf_describe_bits : resF Go.Proofs.Tryz.prog 50 = some i_describe_bits := by kernel_rfl
noncomputable def c71_0 : AC := .seq (.its ([.op (some 5) none (.load (some 4) (.t 3)), .op (some 6) none (.mv (.t 0)), .op (some 7) none (.build [.str [], .int .u8 0, .str [], .slice none 0 (some 0) 0, .slice none 0 (some 0) 0, .int .i64 0, .slice none 0 (some 0) 0, .slice none 0 (some 0) 0] [(1, 4, .t 5), (5, 1, .t 6)]), .op none none (.store 8 (.t 4) (.t 7))])) .ret
noncomputable def c71_1 : AC := .seq (.its ([.op (some 3) none (.box (.t 1)), .op (some 4) none (.alloc [.str [], .int .u8 0, .str [], .slice none 0 (some 0) 0, .slice none 0 (some 0) 0, .int .i64 0, .slice none 0 (some 0) 0, .slice none 0 (some 0) 0])])) c71_0
noncomputable def i_law41_leaf : AFunc := ⟨8, [(4, some (some 8))], c71_1⟩
theorem rf_law41_leaf : resF Go.Proofs.Tryz.prog n_law41_leaf = some i_law41_leaf := by kernel_rfl
noncomputable def c72_0 : List It := [.op (some 8) none (.bin .geq (.t 7) (.c (.int .i64 0))), .op (some 4) none (.mv (.t 8))]
noncomputable def c72_1 : AC := .seq (.its (.op (some 5) none (.mv (.t 0)) :: .op (some 6) none (.mv (.t 1)) :: .call (some 7) none (.c (.func (.func n_slices_IndexFunc_byte) [] [])) [.t 5, .t 6] :: c72_0)) .ret
noncomputable def c72_2 : AC := .seq (.its ([.op (some 4) none (.mv (.c (.bool false)))])) c72_1
noncomputable def i_slices_ContainsFunc_byte : AFunc := ⟨9, [(4, none)], c72_2⟩
theorem rf_slices_ContainsFunc_byte : resF Go.Proofs.Tryz.prog n_slices_ContainsFunc_byte = some i_slices_ContainsFunc_byte := by kernel_rfl
noncomputable def i_frame_names : AFunc := ⟨20, [(2, none)], qa [qo 1 (.box (.t 0)), qk 2 (.slice none 0 (some 0) 0)] (qa [qk 3 (.slice none 0 (some 0) 0)] (.seq (qa [qo 6 (.fieldAddr 4 (.t 1)), ql 7 6, qo 8 (.len .slice (.t 7)), qk 9 (qi 0)] (.block 0 (.loop (qa [qv 10 .lss 9 8] (.seq (.cond (.t 10) .skip (.exit 0)) (.seq (.block 1 (qa [qo 11 (.idxS 3 (.t 7) (.t 9)), qn 12 3 11, qo 5 (.alloc [.str [], qi 0, qi 0]), qs 3 5 12] (.its [qm 13 3, qo 14 (.fieldAddr 0 (.t 5)), ql 15 14, qo 16 (.buildSlice 1 1 [.str []] [(0, 1, .t 15)]), qo 17 (.append 1 16 (.t 13) (.t 16)), qm 3 17]))) (.its [qb 18 .add (.t 9) (qx 1), qm 9 18]))))))) (qa [qm 19 3, qm 2 19] .ret)))⟩
theorem rf_frame_names : resF Go.Proofs.Tryz.prog 245 = some i_frame_names := by kernel_rfl
noncomputable def c73_0 : AC := .seq (.its ([.op (some 3) none (.mv (.t 0)), .op (some 4) none (.bin .geq (.t 3) (.c (.int .i64 0))), .op (some 5) none (.mv (.t 4)), .op (some 6) (some (5, true)) (.mv (.t 0)), .op (some 7) (some (5, true)) (.bin .leq (.t 6) (.c (.int .i64 999))), .op (some 8) none (.pick (.t 5) (.t 7) (.c (.bool false))), .op (some 2) none (.mv (.t 8))])) .ret
noncomputable def c73_1 : AC := .seq (.its ([.op (some 2) none (.mv (.c (.bool false)))])) c73_0
noncomputable def i_describe_fitsS1 : AFunc := ⟨9, [(2, none)], c73_1⟩
theorem rf_describe_fitsS1 : resF Go.Proofs.Tryz.prog n_describe_fitsS1 = some i_describe_fitsS1 := by kernel_rfl
noncomputable def i_holds_Valid : AFunc := ⟨25, [(4, none)], qa [qo 2 (.box (.t 0)), qo 3 (.box (.t 1)), qk 4 (.bool false)] (qa [qn 8 5 2, qc 9 86 [.t 8], qm 7 9, qe 10 0 7, qe 11 1 7, qm 5 10, qm 6 11] (qa [qm 12 6, qm 13 12, qg 14 13 true (.fieldAddr 0 (.t 3)), qg 15 13 true (.load none (.t 14)), qg 16 13 true (.fieldAddr 2 (.t 2)), qg 17 13 true (.load none (.t 16)), qg 18 13 true (.bin .eql (.t 15) (.t 17)), qq 19 13 18, qm 20 19, qh 21 20 true 5, qg 22 20 true (.load (some 7) (.t 3)), .inv (some 23) (some (20, true)) [(198, 196), (199, 208), (201, 240), (202, 265)] (.t 21) [.t 22], qq 24 20 23, qm 4 24] .ret))⟩
theorem rf_holds_Valid : resF Go.Proofs.Tryz.prog 47 = some i_holds_Valid := by kernel_rfl
noncomputable def c74_0 : List It := [.op (some 2) none (.mv (.t 4))]
noncomputable def c74_1 : AC := .seq (.its (.op (some 3) none (.mv (.t 0)) :: .call (some 4) none (.c (.func (.func n_syntax_name) [] [])) [.t 3, .c (.func (.func n_syntax_capital) [] []), .c (.func (.func n_syntax_letter) [] [])] :: c74_0)) .ret
noncomputable def c74_2 : AC := .seq (.its ([.op (some 2) none (.mv (.c (.bool false)))])) c74_1
noncomputable def i_syntax_Predicate : AFunc := ⟨5, [(2, none)], c74_2⟩
theorem rf_syntax_Predicate : resF Go.Proofs.Tryz.prog n_syntax_Predicate = some i_syntax_Predicate := by kernel_rfl
noncomputable def c75_0 : AC := .seq (.its ([.op (some 5) none (.mv (.t 0)), .op (some 6) none (.mv (.t 1)), .op (some 7) none (.build [.int .u8 0, .str [], .slice none 0 (some 0) 0, .slice none 0 (some 0) 0] [(0, 1, .c (.int .u8 1)), (1, 1, .t 5), (2, 1, .t 6)]), .op none none (.store 4 (.t 4) (.t 7))])) .ret
noncomputable def c75_1 : AC := .seq (.its ([.op (some 4) none (.alloc [.int .u8 0, .str [], .slice none 0 (some 0) 0, .slice none 0 (some 0) 0])])) c75_0
noncomputable def i_law30_atom : AFunc := ⟨8, [(4, some (some 4))], c75_1⟩
theorem rf_law30_atom : resF Go.Proofs.Tryz.prog n_law30_atom = some i_law30_atom := by kernel_rfl
noncomputable def i_slices_IndexFunc_api_Fact : AFunc := ⟨19, [(4, none)], qa [qk 4 (qi 0)] (.seq (qa [qm 6 0, qo 7 (.len .slice (.t 6)), qk 8 (qi 0)] (.block 0 (.loop (qa [qv 9 .lss 8 7] (.seq (.cond (.t 9) .skip (.exit 0)) (.seq (.block 1 (qa [qm 10 8, qm 5 10] (qa [qm 11 1, qm 12 0, qm 13 5, qo 14 (.idxS 3 (.t 12) (.t 13)), qn 15 3 14, .call (some 16) none (.t 11) [.t 15]] (.cond (.t 16) (qa [qm 17 5, qm 4 17] .ret) .skip)))) (.its [qb 18 .add (.t 8) (qx 1), qm 8 18]))))))) (qa [qk 4 (qi (-1))] .ret))⟩
theorem rf_slices_IndexFunc_api_Fact : resF Go.Proofs.Tryz.prog 231 = some i_slices_IndexFunc_api_Fact := by kernel_rfl
noncomputable def i_describe_beginS1 : AFunc := ⟨22, [(5, none)], qa [qk 5 (.bool false)] (qa [ql 6 1, qo 7 (.un .not (.t 6)), qm 8 7, qg 9 8 true (.load none (.t 2)), qg 10 8 true (.load none (.t 3)), qg 11 8 true (.len .slice (.t 10)), qg 12 8 true (.bin .lss (.t 9) (.t 11)), qq 13 8 12, qm 14 13, qg 15 14 true (.load none (.t 3)), qg 16 14 true (.load none (.t 2)), qg 17 14 true (.idxS 1 (.t 15) (.t 16)), qg 18 14 true (.load none (.t 17)), qh 19 14 true 0, qg 20 14 true (.bin .eql (.t 18) (.t 19)), qq 21 14 20, qm 5 21] .ret)⟩
theorem rf_describe_beginS1 : resF Go.Proofs.Tryz.prog 70 = some i_describe_beginS1 := by kernel_rfl
noncomputable def c76_0 : List It := [.op (some 4) none (.mv (.t 7))]
noncomputable def c76_1 : AC := .seq (.its (.op (some 5) none (.mv (.t 0)) :: .op (some 6) none (.mv (.t 1)) :: .call (some 7) none (.c (.func (.func n_stringslite_Index) [] [])) [.t 5, .t 6] :: c76_0)) .ret
noncomputable def c76_2 : AC := .seq (.its ([.op (some 4) none (.mv (.c (.int .i64 0)))])) c76_1
noncomputable def i_strings_Index : AFunc := ⟨8, [(4, none)], c76_2⟩
theorem rf_strings_Index : resF Go.Proofs.Tryz.prog n_strings_Index = some i_strings_Index := by kernel_rfl
noncomputable def i_law41_step : AFunc := ⟨14, [(8, some (some 8))], qa [qo 5 (.box (.t 1)), qo 8 (.alloc [.str [], qu 0, .str [], .slice none 0 (some 0) 0, .slice none 0 (some 0) 0, qi 0, .slice none 0 (some 0) 0, .slice none 0 (some 0) 0])] (qa [qm 9 0, qn 10 4 5, qm 11 3, qm 12 2, qo 13 (.build [.str [], qu 0, .str [], .slice none 0 (some 0) 0, .slice none 0 (some 0) 0, qi 0, .slice none 0 (some 0) 0, .slice none 0 (some 0) 0] [(0, 1, .t 9), (1, 4, .t 10), (6, 1, .t 11), (7, 1, .t 12)]), qs 8 8 13] .ret)⟩
theorem rf_law41_step : resF Go.Proofs.Tryz.prog 21 = some i_law41_step := by kernel_rfl
noncomputable def c77_0 : List It := [.op (some 2) none (.mv (.t 4))]
noncomputable def c77_1 : AC := .seq (.its (.op (some 3) none (.mv (.t 0)) :: .call (some 4) none (.c (.func (.func n_istrconv_Itoa) [] [])) [.t 3] :: c77_0)) .ret
noncomputable def c77_2 : AC := .seq (.its ([.op (some 2) none (.mv (.c (.str [])))])) c77_1
noncomputable def i_strconv_Itoa : AFunc := ⟨5, [(2, none)], c77_2⟩
theorem rf_strconv_Itoa : resF Go.Proofs.Tryz.prog n_strconv_Itoa = some i_strconv_Itoa := by kernel_rfl
noncomputable def c78_0 : AC := .seq (.its ([.op (some 3) none (.mv (.t 0)), .op (some 4) none (.mv (.t 0)), .op (some 5) none (.bin .neq (.t 3) (.t 4)), .op (some 2) none (.mv (.t 5))])) .ret
noncomputable def c78_1 : AC := .seq (.its ([.op (some 2) none (.mv (.c (.bool false)))])) c78_0
noncomputable def i_cmp_isNaN_string : AFunc := ⟨6, [(2, none)], c78_1⟩
theorem rf_cmp_isNaN_string : resF Go.Proofs.Tryz.prog n_cmp_isNaN_string = some i_cmp_isNaN_string := by kernel_rfl
noncomputable def i_frame_Fits : AFunc := ⟨18, [(4, none)], qa [qk 4 (.bool false)] (qa [qm 5 0, qc 6 243 [.t 5], qm 7 6, qh 8 7 true 1, qg 9 7 true (.bin .leq (.t 8) (.c (qu 7))), qq 10 7 9, qm 11 10, qh 12 11 true 0, .call (some 13) (some (11, true)) (.c (qf 251)) [.t 12], qh 14 11 true 1, .call (some 15) (some (11, true)) (.c (qf 250)) [.t 13, .t 14], qg 16 11 true (.un .not (.t 15)), qq 17 11 16, qm 4 17] .ret)⟩
theorem rf_frame_Fits : resF Go.Proofs.Tryz.prog 242 = some i_frame_Fits := by kernel_rfl
noncomputable def i_frame_relationS1 : AFunc := ⟨13, [(3, none)], qa [qk 3 (.bool false)] (qa [qm 4 0, qb 5 .lss (.t 4) (qx 0), qm 6 5, qh 7 6 false 0, qg 8 6 false (.load none (.t 1)), qg 9 6 false (.len .slice (.t 8)), qg 10 6 false (.bin .shl (qx 1) (.t 9)), qg 11 6 false (.bin .geq (.t 7) (.t 10)), qp 12 6 11, qm 3 12] .ret)⟩
theorem rf_frame_relationS1 : resF Go.Proofs.Tryz.prog 252 = some i_frame_relationS1 := by kernel_rfl
noncomputable def i_holds_worlds_ops : AFunc := ⟨6, [(2, none)], qa [qo 1 (.box (.t 0)), qk 2 (.int .u32 0)] (.seq (qa [qo 3 (.fieldAddr 0 (.t 1)), ql 4 3, qb 5 .eql (.t 4) (.c (qu 3))] (.cond (.t 5) (qa [qk 2 (.int .u32 254)] .ret) .skip)) (qa [qk 2 (.int .u32 3326)] .ret))⟩
theorem rf_holds_worlds_ops : resF Go.Proofs.Tryz.prog 237 = some i_holds_worlds_ops := by kernel_rfl
noncomputable def i_frame_missing : AFunc := ⟨2, [(0, some (some 3))], qa [qo 0 (.alloc [.nilFunc, .nilFunc, .nilFunc])] (qa [qo 1 (.build [.nilFunc, .nilFunc, .nilFunc] [(0, 1, .c (qf 256)), (1, 1, .c (qf 257)), (2, 1, .c (qf 258))]), qs 3 0 1] .ret)⟩
theorem rf_frame_missing : resF Go.Proofs.Tryz.prog 255 = some i_frame_missing := by kernel_rfl
noncomputable def i_frame_missingS2 : AFunc := ⟨11, [(4, none)], qa [qk 4 (qi 0)] (qa [qm 5 0, qm 6 0, qm 7 1, qo 8 (.idxS 1 (.t 6) (.t 7)), ql 9 8, qc 10 254 [.t 5, .t 9], qm 4 10] .ret)⟩
theorem rf_frame_missingS2 : resF Go.Proofs.Tryz.prog 257 = some i_frame_missingS2 := by kernel_rfl
noncomputable def i_describe_reader_wordS1 : AFunc := ⟨7, [(3, none)], qa [qk 3 (.bool false)] (qa [qm 4 0, ql 5 1, qv 6 .eql 4 5, qm 3 6] .ret)⟩
theorem rf_describe_reader_wordS1 : resF Go.Proofs.Tryz.prog 114 = some i_describe_reader_wordS1 := by kernel_rfl
end Go.Am
namespace Go.Am
open Go.Proofs
set_option maxRecDepth 100000
noncomputable def c79_0 : AC := .seq (.its ([.op (some 4) none (.mv (.c (.int .i64 0)))])) .ret
noncomputable def c79_1 : List It := [.op (some 4) none (.mv (.t 30))]
noncomputable def c79_2 : AC := .seq (.its (.op (some 27) none (.mv (.t 0)) :: .op (some 28) none (.mv (.t 1)) :: .op (some 29) none (.idxStr (.t 28) (.c (.int .i64 0))) :: .call (some 30) none (.c (.func (.func n_stringslite_IndexByte) [] [])) [.t 27, .t 29] :: c79_1)) .ret
noncomputable def c79_3 : AC := .seq (.its ([.op (some 4) none (.mv (.c (.int .i64 (-1))))])) .ret
noncomputable def c79_4 : List It := [.op (some 4) none (.mv (.t 47))]
noncomputable def c79_5 : AC := .seq (.its (.op (some 45) none (.mv (.t 0)) :: .op (some 46) none (.mv (.t 1)) :: .call (some 47) none (.c (.func (.func 164) [] [])) [.t 45, .t 46] :: c79_4)) .ret
noncomputable def c79_6 : AC := .cond (.t 36) c79_5 .skip
noncomputable def c79_7 : AC := .seq (.its ([.op (some 37) none (.mv (.t 5)), .op (some 38) none (.load none (.g 0)), .op (some 39) none (.bin .leq (.t 37) (.t 38)), .op (some 40) none (.mv (.t 39)), .op (some 41) (some (40, true)) (.mv (.t 0)), .op (some 42) (some (40, true)) (.len .str (.t 41)), .op (some 43) (some (40, true)) (.bin .leq (.t 42) (.c (.int .i64 64))), .op (some 44) none (.pick (.t 40) (.t 43) (.c (.bool false))), .op (some 36) none (.mv (.t 44))])) c79_6
noncomputable def c79_8 : AC := .cond (.t 31) c79_3 c79_7
noncomputable def c79_9 : AC := .seq (.its ([.op (some 32) none (.mv (.t 5)), .op (some 33) none (.mv (.t 0)), .op (some 34) none (.len .str (.t 33)), .op (some 35) none (.bin .geq (.t 32) (.t 34)), .op (some 31) none (.mv (.t 35))])) c79_8
noncomputable def c79_10 : AC := .cond (.t 24) c79_2 c79_9
noncomputable def c79_11 : AC := .seq (.its ([.op (some 25) none (.mv (.t 5)), .op (some 26) none (.bin .eql (.t 25) (.c (.int .i64 1))), .op (some 24) none (.mv (.t 26))])) c79_10
noncomputable def c79_12 : AC := .cond (.t 16) c79_0 c79_11
noncomputable def c79_13 : AC := .seq (.its ([.op (some 17) none (.mv (.t 5)), .op (some 18) none (.bin .eql (.t 17) (.c (.int .i64 0))), .op (some 19) none (.mv (.t 18)), .op (some 20) (some (19, false)) (.mv (.t 1)), .op (some 21) (some (19, false)) (.mv (.t 0)), .op (some 22) (some (19, false)) (.bin .eql (.t 20) (.t 21)), .op (some 23) none (.pick (.t 19) (.c (.bool true)) (.t 22)), .op (some 16) none (.mv (.t 23))])) c79_12
noncomputable def c79_14 : AC := .cond (.t 59) .skip (.exit 1)
noncomputable def c79_15 : List It := [.op (some 11) none (.mv (.t 71))]
noncomputable def c79_16 : AC := .seq (.its ([.op (some 4) none (.mv (.c (.int .i64 (-1))))])) .ret
noncomputable def c79_17 : AC := .cond (.t 73) c79_16 .skip
noncomputable def c79_18 : AC := .its ([.op (some 74) none (.mv (.t 8)), .op (some 75) none (.mv (.t 11)), .op (some 76) none (.bin .add (.t 75) (.c (.int .i64 1))), .op (some 77) none (.bin .add (.t 74) (.t 76)), .op (some 8) none (.mv (.t 77))])
noncomputable def c79_19 : AC := .seq (.seq (.its ([.op (some 72) none (.mv (.t 11)), .op (some 73) none (.bin .lss (.t 72) (.c (.int .i64 0)))])) c79_17) c79_18
noncomputable def c79_20 : AC := .seq (.its (.op (some 65) none (.mv (.t 0)) :: .op (some 66) none (.mv (.t 8)) :: .op (some 67) none (.bin .add (.t 66) (.c (.int .i64 1))) :: .op (some 68) none (.mv (.t 9)) :: .op (some 69) none (.sliceStr (.t 65) (some (.t 67)) (some (.t 68))) :: .op (some 70) none (.mv (.t 6)) :: .call (some 71) none (.c (.func (.func n_stringslite_IndexByte) [] [])) [.t 69, .t 70] :: c79_15)) c79_19
noncomputable def c79_21 : AC := .cond (.t 64) c79_20 .skip
noncomputable def c79_22 : AC := .seq (.its ([.op (some 94) none (.mv (.t 8)), .op (some 4) none (.mv (.t 94))])) .ret
noncomputable def c79_23 : AC := .cond (.t 93) c79_22 .skip
noncomputable def c79_24 : List It := [.op (some 106) (some (102, true)) (.bin .gtr (.t 103) (.t 105)), .op (some 107) none (.pick (.t 102) (.t 106) (.c (.bool false)))]
noncomputable def c79_25 : List It := [.op (some 12) none (.mv (.t 112))]
noncomputable def c79_26 : AC := .seq (.its ([.op (some 115) none (.mv (.t 12)), .op (some 116) none (.mv (.t 8)), .op (some 117) none (.bin .add (.t 115) (.t 116)), .op (some 4) none (.mv (.t 117))])) .ret
noncomputable def c79_27 : AC := .cond (.t 114) c79_26 .skip
noncomputable def c79_28 : AC := .seq (.its ([.op (some 4) none (.mv (.c (.int .i64 (-1))))])) .ret
noncomputable def c79_29 : AC := .seq (.seq (.its ([.op (some 113) none (.mv (.t 12)), .op (some 114) none (.bin .geq (.t 113) (.c (.int .i64 0)))])) c79_27) c79_28
noncomputable def c79_30 : AC := .seq (.its (.op (some 108) none (.mv (.t 0)) :: .op (some 109) none (.mv (.t 8)) :: .op (some 110) none (.sliceStr (.t 108) (some (.t 109)) none) :: .op (some 111) none (.mv (.t 1)) :: .call (some 112) none (.c (.func (.func 164) [] [])) [.t 110, .t 111] :: c79_25)) c79_29
noncomputable def c79_31 : List It := [.op (some 13) none (.mv (.t 137))]
noncomputable def c79_32 : AC := .seq (.its ([.op (some 4) none (.mv (.c (.int .i64 (-1))))])) .ret
noncomputable def c79_33 : AC := .cond (.t 139) c79_32 .skip
noncomputable def c79_34 : AC := .seq (.its ([.op (some 140) none (.mv (.t 8)), .op (some 141) none (.mv (.t 13)), .op (some 142) none (.bin .add (.t 140) (.t 141)), .op (some 4) none (.mv (.t 142))])) .ret
noncomputable def c79_35 : AC := .seq (.seq (.its ([.op (some 138) none (.mv (.t 13)), .op (some 139) none (.bin .lss (.t 138) (.c (.int .i64 0)))])) c79_33) c79_34
noncomputable def c79_36 : AC := .seq (.its (.op (some 133) none (.mv (.t 0)) :: .op (some 134) none (.mv (.t 8)) :: .op (some 135) none (.sliceStr (.t 133) (some (.t 134)) none) :: .op (some 136) none (.mv (.t 1)) :: .call (some 137) none (.c (.func (.func n_bytealg_IndexRabinKarp_string) [] [])) [.t 135, .t 136] :: c79_31)) c79_35
noncomputable def c79_37 : AC := .cond (.t 132) c79_36 .skip
noncomputable def c79_38 : AC := .seq (.its ([.op (some 118) none (.mv (.t 5)), .op (some 119) none (.load none (.g 0)), .op (some 120) none (.bin .gtr (.t 118) (.t 119)), .op (some 121) none (.mv (.t 120)), .op (some 122) (some (121, true)) (.mv (.t 10)), .op (some 123) (some (121, true)) (.mv (.t 8)), .op (some 124) (some (121, true)) (.bin .shr (.t 123) (.c (.int .u64 4))), .op (some 125) (some (121, true)) (.bin .add (.c (.int .i64 4)) (.t 124)), .op (some 126) (some (121, true)) (.bin .geq (.t 122) (.t 125)), .op (some 127) none (.pick (.t 121) (.t 126) (.c (.bool false))), .op (some 128) none (.mv (.t 127)), .op (some 129) (some (128, true)) (.mv (.t 8)), .op (some 130) (some (128, true)) (.mv (.t 9)), .op (some 131) (some (128, true)) (.bin .lss (.t 129) (.t 130)), .op (some 132) none (.pick (.t 128) (.t 131) (.c (.bool false)))])) c79_37
noncomputable def c79_39 : AC := .cond (.t 107) c79_30 c79_38
noncomputable def c79_40 : AC := .seq (.its (.op (some 99) none (.mv (.t 5)) :: .op (some 100) none (.load none (.g 0)) :: .op (some 101) none (.bin .leq (.t 99) (.t 100)) :: .op (some 102) none (.mv (.t 101)) :: .op (some 103) (some (102, true)) (.mv (.t 10)) :: .op (some 104) (some (102, true)) (.mv (.t 8)) :: .call (some 105) (some (102, true)) (.c (.func (.func n_bytealg_Cutover) [] [])) [.t 104] :: c79_24)) c79_39
noncomputable def c79_41 : AC := .seq (.its ([.op (some 97) none (.mv (.t 10)), .op (some 98) none (.bin .add (.t 97) (.c (.int .i64 1))), .op (some 10) none (.mv (.t 98))])) c79_40
noncomputable def c79_42 : AC := .seq (.its ([.op (some 95) none (.mv (.t 8)), .op (some 96) none (.bin .add (.t 95) (.c (.int .i64 1))), .op (some 8) none (.mv (.t 96))])) c79_41
noncomputable def c79_43 : AC := .seq (.seq (.its ([.op (some 78) none (.mv (.t 0)), .op (some 79) none (.mv (.t 8)), .op (some 80) none (.bin .add (.t 79) (.c (.int .i64 1))), .op (some 81) none (.idxStr (.t 78) (.t 80)), .op (some 82) none (.mv (.t 7)), .op (some 83) none (.bin .eql (.t 81) (.t 82)), .op (some 84) none (.mv (.t 83)), .op (some 85) (some (84, true)) (.mv (.t 0)), .op (some 86) (some (84, true)) (.mv (.t 8)), .op (some 87) (some (84, true)) (.mv (.t 8)), .op (some 88) (some (84, true)) (.mv (.t 5)), .op (some 89) (some (84, true)) (.bin .add (.t 87) (.t 88)), .op (some 90) (some (84, true)) (.sliceStr (.t 85) (some (.t 86)) (some (.t 89))), .op (some 91) (some (84, true)) (.mv (.t 1)), .op (some 92) (some (84, true)) (.bin .eql (.t 90) (.t 91)), .op (some 93) none (.pick (.t 84) (.t 92) (.c (.bool false)))])) c79_23) c79_42
noncomputable def c79_44 : AC := .seq (.seq (.its ([.op (some 60) none (.mv (.t 0)), .op (some 61) none (.mv (.t 8)), .op (some 62) none (.idxStr (.t 60) (.t 61)), .op (some 63) none (.mv (.t 6)), .op (some 64) none (.bin .neq (.t 62) (.t 63))])) c79_21) c79_43
noncomputable def c79_45 : AC := .block 2 c79_44
noncomputable def c79_46 : AC := .seq (.seq (.its ([.op (some 57) none (.mv (.t 8)), .op (some 58) none (.mv (.t 9)), .op (some 59) none (.bin .lss (.t 57) (.t 58))])) c79_14) c79_45
noncomputable def c79_47 : AC := .loop c79_46
noncomputable def c79_48 : AC := .seq (.its ([.op (some 4) none (.mv (.c (.int .i64 (-1))))])) .ret
noncomputable def c79_49 : AC := .seq (.block 1 c79_47) c79_48
noncomputable def c79_50 : AC := .seq (.its ([.op (some 10) none (.mv (.c (.int .i64 0)))])) c79_49
noncomputable def c79_51 : AC := .seq (.its ([.op (some 52) none (.mv (.t 0)), .op (some 53) none (.len .str (.t 52)), .op (some 54) none (.mv (.t 5)), .op (some 55) none (.bin .sub (.t 53) (.t 54)), .op (some 56) none (.bin .add (.t 55) (.c (.int .i64 1))), .op (some 9) none (.mv (.t 56))])) c79_50
noncomputable def c79_52 : AC := .seq (.its ([.op (some 8) none (.mv (.c (.int .i64 0)))])) c79_51
noncomputable def c79_53 : AC := .seq (.its ([.op (some 50) none (.mv (.t 1)), .op (some 51) none (.idxStr (.t 50) (.c (.int .i64 1))), .op (some 7) none (.mv (.t 51))])) c79_52
noncomputable def c79_54 : AC := .seq (.its ([.op (some 48) none (.mv (.t 1)), .op (some 49) none (.idxStr (.t 48) (.c (.int .i64 0))), .op (some 6) none (.mv (.t 49))])) c79_53
noncomputable def c79_55 : AC := .seq (.block 0 c79_13) c79_54
noncomputable def c79_56 : AC := .seq (.its ([.op (some 14) none (.mv (.t 1)), .op (some 15) none (.len .str (.t 14)), .op (some 5) none (.mv (.t 15))])) c79_55
noncomputable def c79_57 : AC := .seq (.its ([.op (some 4) none (.mv (.c (.int .i64 0)))])) c79_56
noncomputable def i_stringslite_Index : AFunc := ⟨143, [(4, none)], c79_57⟩
theorem rf_stringslite_Index : resF Go.Proofs.Tryz.prog n_stringslite_Index = some i_stringslite_Index := by kernel_rfl
noncomputable def c80_0 : List It := [.op (some 26) none (.un .not (.t 25))]
noncomputable def c80_1 : AC := .seq (.its ([.op (some 6) none (.mv (.c (.bool false)))])) .ret
noncomputable def c80_2 : AC := .cond (.t 26) c80_1 .skip
noncomputable def c80_3 : List It := [.op (some 7) none (.alloc [.int .u8 0, .str [], .slice none 0 (some 0) 0, .slice none 0 (some 0) 0]), .op (some 8) none (.alloc [.int .u8 0, .str [], .slice none 0 (some 0) 0, .slice none 0 (some 0) 0]), .op none none (.store 4 (.t 7) (.t 28)), .op none none (.store 4 (.t 8) (.t 30))]
noncomputable def c80_4 : List It := .op (some 29) none (.mv (.t 1)) :: .call (some 30) none (.c (.func (.func n_law30_Built) [] [])) [.t 29] :: c80_3
noncomputable def c80_5 : List It := [.op (some 31) none (.mv (.t 33)), .op (some 34) none (.extract 0 (.t 31)), .op (some 35) none (.extract 1 (.t 31)), .op (some 9) none (.mv (.t 34)), .op (some 10) none (.mv (.t 35))]
noncomputable def c80_6 : List It := [.op (some 36) none (.mv (.t 38)), .op (some 39) none (.extract 0 (.t 36)), .op (some 40) none (.extract 1 (.t 36)), .op (some 11) none (.mv (.t 39)), .op (some 12) none (.mv (.t 40))]
noncomputable def c80_7 : AC := .its ([.op (some 53) none (.load (some 4) (.t 8)), .op (some 54) none (.buildSlice 4 1 [.int .u8 0, .str [], .slice none 0 (some 0) 0, .slice none 0 (some 0) 0] [(0, 4, .t 53)]), .op (some 55) none (.load (some 4) (.t 7)), .op (some 56) none (.buildSlice 4 1 [.int .u8 0, .str [], .slice none 0 (some 0) 0, .slice none 0 (some 0) 0] [(0, 4, .t 55)]), .op (some 57) none (.build [.slice none 0 (some 0) 0, .slice none 0 (some 0) 0] [(0, 1, .t 54), (1, 1, .t 56)]), .op none none (.store 2 (.t 14) (.t 57))])
noncomputable def c80_8 : AC := .cond (.t 52) c80_7 .skip
noncomputable def c80_9 : List It := [.op (some 58) none (.mv (.t 60)), .op (some 61) none (.extract 0 (.t 58)), .op (some 62) none (.extract 1 (.t 58)), .op (some 15) none (.mv (.t 61)), .op (some 16) none (.mv (.t 62))]
noncomputable def c80_10 : List It := [.op (some 63) none (.mv (.t 65)), .op (some 66) none (.extract 0 (.t 63)), .op (some 67) none (.extract 1 (.t 63)), .op (some 17) none (.mv (.t 66)), .op (some 18) none (.mv (.t 67))]
noncomputable def c80_11 : List It := [.op (some 19) none (.alloc [.str [], .int .u8 0, .str [], .slice none 0 (some 0) 0, .slice none 0 (some 0) 0, .int .i64 0, .slice none 0 (some 0) 0, .slice none 0 (some 0) 0]), .op (some 20) none (.alloc [.str [], .int .u8 0, .str [], .slice none 0 (some 0) 0, .slice none 0 (some 0) 0, .int .i64 0, .slice none 0 (some 0) 0, .slice none 0 (some 0) 0]), .op none none (.store 8 (.t 19) (.t 69)), .op none none (.store 8 (.t 20) (.t 71))]
noncomputable def c80_12 : List It := .op (some 70) none (.mv (.t 1)) :: .call (some 71) none (.c (.func (.func n_law41_Proved) [] [])) [.t 70] :: c80_11
noncomputable def c80_13 : List It := [.op (some 72) none (.mv (.t 74)), .op (some 75) none (.extract 0 (.t 72)), .op (some 76) none (.extract 1 (.t 72)), .op (some 21) none (.mv (.t 75)), .op (some 22) none (.mv (.t 76))]
noncomputable def c80_14 : List It := [.op (some 77) none (.mv (.t 79)), .op (some 80) none (.extract 0 (.t 77)), .op (some 81) none (.extract 1 (.t 77)), .op (some 23) none (.mv (.t 80)), .op (some 24) none (.mv (.t 81))]
noncomputable def c80_15 : AC := .seq (.its ([.op (some 6) none (.mv (.c (.bool false)))])) .ret
noncomputable def c80_16 : AC := .cond (.t 93) c80_15 .skip
noncomputable def c80_17 : List It := [.op (some 117) (some (110, true)) (.eq (.basic .bool) false (.t 113) (.t 116)), .op (some 118) none (.pick (.t 110) (.t 117) (.c (.bool false))), .op (some 6) none (.mv (.t 118))]
noncomputable def c80_18 : List It := .again 115 (some (110, true)) (.load (some 8) (.t 20)) :: .again 114 (some (110, true)) (.load (some 8) (.t 19)) :: .call (some 116) (some (110, true)) (.c (.func (.func n_kit_SameProof) [] [])) [.t 114, .t 115] :: c80_17
noncomputable def c80_19 : List It := .op (some 108) (some (101, true)) (.eq (.basic .bool) false (.t 104) (.t 107)) :: .op (some 109) none (.pick (.t 101) (.t 108) (.c (.bool false))) :: .op (some 110) none (.mv (.t 109)) :: .op (some 111) (some (110, true)) (.mv (.t 21)) :: .op (some 112) (some (110, true)) (.mv (.t 23)) :: .op (some 114) (some (110, true)) (.load (some 8) (.t 19)) :: .op (some 115) (some (110, true)) (.load (some 8) (.t 20)) :: .call (some 113) (some (110, true)) (.c (.func (.func n_kit_SameTexts) [] [])) [.t 111, .t 112] :: c80_18
noncomputable def c80_20 : List It := .op (some 100) none (.eq (.basic .bool) false (.t 96) (.t 99)) :: .op (some 101) none (.mv (.t 100)) :: .op (some 102) (some (101, true)) (.mv (.t 15)) :: .op (some 103) (some (101, true)) (.mv (.t 17)) :: .op (some 104) (some (101, true)) (.bin .eql (.t 102) (.t 103)) :: .op (some 105) (some (101, true)) (.load (some 2) (.t 13)) :: .op (some 106) (some (101, true)) (.load (some 2) (.t 14)) :: .call (some 107) (some (101, true)) (.c (.func (.func n_kit_SameSeq) [] [])) [.t 105, .t 106] :: c80_19
noncomputable def c80_21 : AC := .seq (.its (.op (some 94) none (.mv (.t 9)) :: .op (some 95) none (.mv (.t 11)) :: .op (some 96) none (.bin .eql (.t 94) (.t 95)) :: .op (some 97) none (.load (some 4) (.t 7)) :: .op (some 98) none (.load (some 4) (.t 8)) :: .call (some 99) none (.c (.func (.func n_syntax_Same) [] [])) [.t 97, .t 98] :: c80_20)) .ret
noncomputable def c80_22 : AC := .seq (.seq (.its ([.op (some 82) none (.mv (.t 10)), .op (some 83) none (.mv (.t 12)), .op (some 84) none (.bin .add (.t 82) (.t 83)), .op (some 85) none (.mv (.t 16)), .op (some 86) none (.bin .add (.t 84) (.t 85)), .op (some 87) none (.mv (.t 18)), .op (some 88) none (.bin .add (.t 86) (.t 87)), .op (some 89) none (.mv (.t 22)), .op (some 90) none (.bin .add (.t 88) (.t 89)), .op (some 91) none (.mv (.t 24)), .op (some 92) none (.bin .add (.t 90) (.t 91)), .op (some 93) none (.bin .neq (.t 92) (.c (.int .i64 0)))])) c80_16) c80_21
noncomputable def c80_23 : AC := .seq (.its (.op (some 78) none (.load (some 8) (.t 20)) :: .call (some 79) none (.c (.func (.func n_describe_Proof) [] [])) [.t 78] :: c80_14)) c80_22
noncomputable def c80_24 : AC := .seq (.its (.op (some 73) none (.load (some 8) (.t 19)) :: .call (some 74) none (.c (.func (.func n_describe_Proof) [] [])) [.t 73] :: c80_13)) c80_23
noncomputable def c80_25 : AC := .seq (.its (.op (some 68) none (.mv (.t 0)) :: .call (some 69) none (.c (.func (.func n_law41_Proved) [] [])) [.t 68] :: c80_12)) c80_24
noncomputable def c80_26 : AC := .seq (.its (.op (some 64) none (.load (some 2) (.t 14)) :: .call (some 65) none (.c (.func (.func n_describe_Claim) [] [])) [.t 64] :: c80_10)) c80_25
noncomputable def c80_27 : AC := .seq (.its (.op (some 59) none (.load (some 2) (.t 13)) :: .call (some 60) none (.c (.func (.func n_describe_Claim) [] [])) [.t 59] :: c80_9)) c80_26
noncomputable def c80_28 : AC := .seq (.seq (.its ([.op (some 50) none (.mv (.t 2)), .op (some 51) none (.bin .rem (.t 50) (.c (.int .u8 2))), .op (some 52) none (.bin .eql (.t 51) (.c (.int .u8 1)))])) c80_8) c80_27
noncomputable def c80_29 : AC := .seq (.its ([.op (some 41) none (.load (some 4) (.t 7)), .op (some 42) none (.buildSlice 4 1 [.int .u8 0, .str [], .slice none 0 (some 0) 0, .slice none 0 (some 0) 0] [(0, 4, .t 41)]), .op (some 43) none (.load (some 4) (.t 8)), .op (some 44) none (.buildSlice 4 1 [.int .u8 0, .str [], .slice none 0 (some 0) 0, .slice none 0 (some 0) 0] [(0, 4, .t 43)]), .op (some 45) none (.build [.slice none 0 (some 0) 0, .slice none 0 (some 0) 0] [(0, 1, .t 42), (1, 1, .t 44)]), .op (some 46) none (.load (some 4) (.t 7)), .op (some 47) none (.load (some 4) (.t 8)), .op (some 48) none (.buildSlice 4 2 [.int .u8 0, .str [], .slice none 0 (some 0) 0, .slice none 0 (some 0) 0, .int .u8 0, .str [], .slice none 0 (some 0) 0, .slice none 0 (some 0) 0] [(0, 4, .t 46), (4, 4, .t 47)]), .op (some 49) none (.build [.slice none 0 (some 0) 0, .slice none 0 (some 0) 0] [(0, 1, .t 48)]), .op (some 13) none (.alloc [.slice none 0 (some 0) 0, .slice none 0 (some 0) 0]), .op (some 14) none (.alloc [.slice none 0 (some 0) 0, .slice none 0 (some 0) 0]), .op none none (.store 2 (.t 13) (.t 45)), .again 48 none (.buildSlice 4 2 [.int .u8 0, .str [], .slice none 0 (some 0) 0, .slice none 0 (some 0) 0, .int .u8 0, .str [], .slice none 0 (some 0) 0, .slice none 0 (some 0) 0] [(0, 4, .t 46), (4, 4, .t 47)]), .again 47 none (.load (some 4) (.t 8)), .again 46 none (.load (some 4) (.t 7)), .op none none (.store 2 (.t 14) (.t 49))])) c80_28
noncomputable def c80_30 : AC := .seq (.its (.op (some 37) none (.load (some 4) (.t 8)) :: .call (some 38) none (.c (.func (.func n_describe_Form) [] [])) [.t 37] :: c80_6)) c80_29
noncomputable def c80_31 : AC := .seq (.its (.op (some 32) none (.load (some 4) (.t 7)) :: .call (some 33) none (.c (.func (.func n_describe_Form) [] [])) [.t 32] :: c80_5)) c80_30
noncomputable def c80_32 : AC := .seq (.its (.op (some 27) none (.mv (.t 0)) :: .call (some 28) none (.c (.func (.func n_law30_Built) [] [])) [.t 27] :: c80_4)) c80_31
noncomputable def c80_33 : AC := .seq (.seq (.its (.call (some 25) none (.c (.func (.func n_law41_awake) [] [])) [] :: c80_0)) c80_2) c80_32
noncomputable def c80_34 : AC := .seq (.its ([.op (some 6) none (.mv (.c (.bool false)))])) c80_33
noncomputable def i_law41_DescribeApart : AFunc := ⟨119, [(6, none)], c80_34⟩
theorem rf_law41_DescribeApart : resF Go.Proofs.Tryz.prog n_law41_DescribeApart = some i_law41_DescribeApart := by kernel_rfl
noncomputable def c81_0 : AC := .seq (.its ([.op (some 8) none (.mv (.c (.slice none 0 (some 0) 0)))])) .ret
noncomputable def c81_1 : AC := .cond (.t 13) c81_0 .skip
noncomputable def c81_2 : List It := [.op (some 8) none (.mv (.t 18))]
noncomputable def c81_3 : AC := .seq (.its (.op (some 16) none (.mv (.t 0)) :: .op (some 17) none (.mv (.t 3)) :: .call (some 18) none (.c (.func (.func n_strings_explode) [] [])) [.t 16, .t 17] :: c81_2)) .ret
noncomputable def c81_4 : AC := .cond (.t 15) c81_3 .skip
noncomputable def c81_5 : List It := [.op (some 24) none (.bin .add (.t 23) (.c (.int .i64 1))), .op (some 3) none (.mv (.t 24))]
noncomputable def c81_6 : AC := .its (.op (some 21) none (.mv (.t 0)) :: .op (some 22) none (.mv (.t 1)) :: .call (some 23) none (.c (.func (.func n_strings_Count) [] [])) [.t 21, .t 22] :: c81_5)
noncomputable def c81_7 : AC := .cond (.t 20) c81_6 .skip
noncomputable def c81_8 : AC := .cond (.t 36) .skip (.exit 0)
noncomputable def c81_9 : List It := [.op (some 11) none (.mv (.t 39))]
noncomputable def c81_10 : AC := .cond (.t 41) (.exit 0) .skip
noncomputable def c81_11 : AC := .its ([.op (some 56) none (.mv (.t 10)), .op (some 57) none (.bin .add (.t 56) (.c (.int .i64 1))), .op (some 10) none (.mv (.t 57))])
noncomputable def c81_12 : AC := .seq (.its ([.op (some 50) none (.mv (.t 0)), .op (some 51) none (.mv (.t 11)), .op (some 52) none (.mv (.t 1)), .op (some 53) none (.len .str (.t 52)), .op (some 54) none (.bin .add (.t 51) (.t 53)), .op (some 55) none (.sliceStr (.t 50) (some (.t 54)) none), .op (some 0) none (.mv (.t 55))])) c81_11
noncomputable def c81_13 : AC := .seq (.its ([.op (some 42) none (.mv (.t 9)), .op (some 43) none (.mv (.t 10)), .op (some 44) none (.mv (.t 0)), .op (some 45) none (.mv (.t 11)), .op (some 46) none (.mv (.t 2)), .op (some 47) none (.bin .add (.t 45) (.t 46)), .op (some 48) none (.sliceStr (.t 44) none (some (.t 47))), .op (some 49) none (.idxS 1 (.t 42) (.t 43)), .op none none (.store 1 (.t 49) (.t 48))])) c81_12
noncomputable def c81_14 : AC := .seq (.seq (.its ([.op (some 40) none (.mv (.t 11)), .op (some 41) none (.bin .lss (.t 40) (.c (.int .i64 0)))])) c81_10) c81_13
noncomputable def c81_15 : AC := .seq (.its (.op (some 37) none (.mv (.t 0)) :: .op (some 38) none (.mv (.t 1)) :: .call (some 39) none (.c (.func (.func n_strings_Index) [] [])) [.t 37, .t 38] :: c81_9)) c81_14
noncomputable def c81_16 : AC := .block 1 c81_15
noncomputable def c81_17 : AC := .seq (.seq (.its ([.op (some 34) none (.mv (.t 10)), .op (some 35) none (.mv (.t 3)), .op (some 36) none (.bin .lss (.t 34) (.t 35))])) c81_8) c81_16
noncomputable def c81_18 : AC := .loop c81_17
noncomputable def c81_19 : AC := .seq (.its ([.op (some 62) none (.mv (.t 9)), .op (some 63) none (.mv (.t 10)), .op (some 64) none (.bin .add (.t 63) (.c (.int .i64 1))), .op (some 65) none (.sliceS 1 (.t 62) none (some (.t 64)) none), .op (some 8) none (.mv (.t 65))])) .ret
noncomputable def c81_20 : AC := .seq (.its ([.op (some 58) none (.mv (.t 9)), .op (some 59) none (.mv (.t 10)), .op (some 60) none (.mv (.t 0)), .op (some 61) none (.idxS 1 (.t 58) (.t 59)), .op none none (.store 1 (.t 61) (.t 60))])) c81_19
noncomputable def c81_21 : AC := .seq (.block 0 c81_18) c81_20
noncomputable def c81_22 : AC := .seq (.its ([.op (some 10) none (.mv (.c (.int .i64 0)))])) c81_21
noncomputable def c81_23 : AC := .seq (.its ([.op (some 32) none (.mv (.t 3)), .op (some 33) none (.bin .sub (.t 32) (.c (.int .i64 1))), .op (some 3) none (.mv (.t 33))])) c81_22
noncomputable def c81_24 : AC := .seq (.its ([.op (some 30) none (.mv (.t 3)), .op (some 31) none (.mkSlice 1 16 [.str []] (.t 30) (.t 30)), .op (some 9) none (.mv (.t 31))])) c81_23
noncomputable def c81_25 : AC := .seq (.its ([.op (some 25) none (.mv (.t 3)), .op (some 26) none (.mv (.t 0)), .op (some 27) none (.len .str (.t 26)), .op (some 28) none (.bin .add (.t 27) (.c (.int .i64 1))), .op (some 29) none (.min [.t 25, .t 28]), .op (some 3) none (.mv (.t 29))])) c81_24
noncomputable def c81_26 : AC := .seq (.seq (.its ([.op (some 19) none (.mv (.t 3)), .op (some 20) none (.bin .lss (.t 19) (.c (.int .i64 0)))])) c81_7) c81_25
noncomputable def c81_27 : AC := .seq (.seq (.its ([.op (some 14) none (.mv (.t 1)), .op (some 15) none (.bin .eql (.t 14) (.c (.str [])))])) c81_4) c81_26
noncomputable def c81_28 : AC := .seq (.seq (.its ([.op (some 12) none (.mv (.t 3)), .op (some 13) none (.bin .eql (.t 12) (.c (.int .i64 0)))])) c81_1) c81_27
noncomputable def c81_29 : AC := .seq (.its ([.op (some 8) none (.mv (.c (.slice none 0 (some 0) 0)))])) c81_28
noncomputable def i_strings_genSplit : AFunc := ⟨66, [(8, none)], c81_29⟩
theorem rf_strings_genSplit : resF Go.Proofs.Tryz.prog n_strings_genSplit = some i_strings_genSplit := by kernel_rfl
noncomputable def c82_0 : AC := .seq (.its ([.op (some 6) none (.mv (.c (.int .i64 1)))])) .ret
noncomputable def c82_1 : AC := .cond (.t 21) c82_0 .skip
noncomputable def c82_2 : List It := [.op (some 10) none (.mv (.t 29))]
noncomputable def c82_3 : AC := .seq (.its ([.op (some 32) none (.mv (.t 10)), .op (some 6) none (.mv (.t 32))])) .ret
noncomputable def c82_4 : AC := .cond (.t 31) c82_3 .skip
noncomputable def c82_5 : AC := .seq (.its ([.op (some 30) none (.mv (.t 10)), .op (some 31) none (.bin .neq (.t 30) (.c (.int .i64 0)))])) c82_4
noncomputable def c82_6 : AC := .seq (.its (.op (some 26) none (.mv (.t 2)) :: .op (some 27) none (.load (some 4) (.t 8)) :: .op (some 28) none (.load (some 4) (.t 9)) :: .call (some 29) none (.t 26) [.t 27, .t 28] :: c82_2)) c82_5
noncomputable def c82_7 : AC := .seq (.its ([.op (some 22) none (.mv (.t 1)), .op (some 23) none (.mv (.t 7)), .op (some 24) none (.idxS 4 (.t 22) (.t 23)), .op (some 25) none (.load (some 4) (.t 24)), .op (some 9) none (.alloc [.int .u8 0, .str [], .slice none 0 (some 0) 0, .slice none 0 (some 0) 0]), .op none none (.store 4 (.t 9) (.t 25))])) c82_6
noncomputable def c82_8 : AC := .seq (.seq (.its ([.op (some 18) none (.mv (.t 7)), .op (some 19) none (.mv (.t 1)), .op (some 20) none (.len .slice (.t 19)), .op (some 21) none (.bin .geq (.t 18) (.t 20))])) c82_1) c82_7
noncomputable def c82_9 : AC := .seq (.its ([.op (some 15) none (.mv (.t 13)), .op (some 16) none (.idxS 4 (.t 11) (.t 13)), .op (some 17) none (.load (some 4) (.t 16)), .op (some 8) none (.alloc [.int .u8 0, .str [], .slice none 0 (some 0) 0, .slice none 0 (some 0) 0]), .op (some 7) none (.mv (.t 15)), .op none none (.store 4 (.t 8) (.t 17))])) c82_8
noncomputable def c82_10 : AC := .its ([.op (some 33) none (.bin .add (.t 13) (.c (.int .i64 1))), .op (some 13) none (.mv (.t 33))])
noncomputable def c82_11 : AC := .seq (.block 1 c82_9) c82_10
noncomputable def c82_12 : AC := .seq (.cond (.t 14) .skip (.exit 0)) c82_11
noncomputable def c82_13 : AC := .seq (.its ([.op (some 14) none (.bin .lss (.t 13) (.t 12))])) c82_12
noncomputable def c82_14 : AC := .loop c82_13
noncomputable def c82_15 : AC := .block 0 c82_14
noncomputable def c82_16 : AC := .seq (.its ([.op (some 6) none (.mv (.c (.int .i64 (-1))))])) .ret
noncomputable def c82_17 : AC := .cond (.t 38) c82_16 .skip
noncomputable def c82_18 : AC := .seq (.its ([.op (some 6) none (.mv (.c (.int .i64 0)))])) .ret
noncomputable def c82_19 : AC := .seq (.seq (.its ([.op (some 34) none (.mv (.t 0)), .op (some 35) none (.len .slice (.t 34)), .op (some 36) none (.mv (.t 1)), .op (some 37) none (.len .slice (.t 36)), .op (some 38) none (.bin .lss (.t 35) (.t 37))])) c82_17) c82_18
noncomputable def c82_20 : AC := .seq (.seq (.its ([.op (some 11) none (.mv (.t 0)), .op (some 12) none (.len .slice (.t 11)), .op (some 13) none (.mv (.c (.int .i64 0)))])) c82_15) c82_19
noncomputable def c82_21 : AC := .seq (.its ([.op (some 6) none (.mv (.c (.int .i64 0)))])) c82_20
noncomputable def i_slices_CompareFunc_api_Form_api_Form : AFunc := ⟨39, [(6, none)], c82_21⟩
theorem rf_slices_CompareFunc_api_Form_api_Form : resF Go.Proofs.Tryz.prog n_slices_CompareFunc_api_Form_api_Form = some i_slices_CompareFunc_api_Form_api_Form := by kernel_rfl
noncomputable def c83_0 : AC := .its ([.op (some 21) none (.mkIface 9 (.c (.str [108, 101, 110, 32, 111, 117, 116, 32, 111, 102, 32, 114, 97, 110, 103, 101]))), .op none none .fail])
noncomputable def c83_1 : AC := .cond (.t 20) c83_0 .skip
noncomputable def c83_2 : AC := .seq (.its ([.op (some 19) none (.mv (.t 3)), .op (some 20) none (.bin .lss (.t 19) (.c (.int .i64 0)))])) c83_1
noncomputable def c83_3 : AC := .seq (.its ([.op (some 15) none (.mv (.t 3)), .op (some 16) none (.mv (.t 5)), .op (some 17) none (.len .slice (.t 16)), .op (some 18) none (.bin .add (.t 15) (.t 17)), .op (some 3) none (.mv (.t 18))])) c83_2
noncomputable def c83_4 : AC := .seq (.its ([.op (some 13) none (.idxS 1 (.t 9) (.t 11)), .op (some 14) none (.load none (.t 13)), .op (some 5) none (.mv (.t 14))])) c83_3
noncomputable def c83_5 : AC := .its ([.op (some 22) none (.bin .add (.t 11) (.c (.int .i64 1))), .op (some 11) none (.mv (.t 22))])
noncomputable def c83_6 : AC := .seq (.block 1 c83_4) c83_5
noncomputable def c83_7 : AC := .seq (.cond (.t 12) .skip (.exit 0)) c83_6
noncomputable def c83_8 : AC := .seq (.its ([.op (some 12) none (.bin .lss (.t 11) (.t 10))])) c83_7
noncomputable def c83_9 : AC := .loop c83_8
noncomputable def c83_10 : AC := .block 0 c83_9
noncomputable def c83_11 : List It := [.op (some 6) none (.mv (.t 24))]
noncomputable def c83_12 : AC := .its ([.op (some 31) none (.mv (.t 6)), .op (some 32) none (.mv (.t 8)), .op (some 33) none (.append 4 72 (.t 31) (.t 32)), .op (some 6) none (.mv (.t 33))])
noncomputable def c83_13 : AC := .seq (.its ([.op (some 29) none (.idxS 1 (.t 25) (.t 27)), .op (some 30) none (.load none (.t 29)), .op (some 8) none (.mv (.t 30))])) c83_12
noncomputable def c83_14 : AC := .its ([.op (some 34) none (.bin .add (.t 27) (.c (.int .i64 1))), .op (some 27) none (.mv (.t 34))])
noncomputable def c83_15 : AC := .seq (.block 3 c83_13) c83_14
noncomputable def c83_16 : AC := .seq (.cond (.t 28) .skip (.exit 2)) c83_15
noncomputable def c83_17 : AC := .seq (.its ([.op (some 28) none (.bin .lss (.t 27) (.t 26))])) c83_16
noncomputable def c83_18 : AC := .loop c83_17
noncomputable def c83_19 : AC := .block 2 c83_18
noncomputable def c83_20 : AC := .seq (.its ([.op (some 35) none (.mv (.t 6)), .op (some 2) none (.mv (.t 35))])) .ret
noncomputable def c83_21 : AC := .seq (.seq (.its ([.op (some 25) none (.mv (.t 0)), .op (some 26) none (.len .slice (.t 25)), .op (some 27) none (.mv (.c (.int .i64 0)))])) c83_19) c83_20
noncomputable def c83_22 : AC := .seq (.its (.op (some 23) none (.mv (.t 3)) :: .call (some 24) none (.c (.func (.func n_slices_Grow_api_Form) [] [])) [.c (.slice none 0 (some 0) 0), .t 23] :: c83_11)) c83_21
noncomputable def c83_23 : AC := .seq (.seq (.its ([.op (some 9) none (.mv (.t 0)), .op (some 10) none (.len .slice (.t 9)), .op (some 11) none (.mv (.c (.int .i64 0)))])) c83_10) c83_22
noncomputable def c83_24 : AC := .seq (.its ([.op (some 3) none (.mv (.c (.int .i64 0)))])) c83_23
noncomputable def c83_25 : AC := .seq (.its ([.op (some 2) none (.mv (.c (.slice none 0 (some 0) 0)))])) c83_24
noncomputable def i_slices_Concat_api_Form : AFunc := ⟨36, [(2, none)], c83_25⟩
theorem rf_slices_Concat_api_Form : resF Go.Proofs.Tryz.prog n_slices_Concat_api_Form = some i_slices_Concat_api_Form := by kernel_rfl
noncomputable def c84_0 : AC := .seq (.its ([.op (some 11) none (.mv (.t 0)), .op (some 4) none (.mv (.t 11))])) .ret
noncomputable def c84_1 : AC := .cond (.t 10) c84_0 .skip
noncomputable def c84_2 : List It := [.op (some 24) none (.buildSlice 1 1 [.str []] [(0, 1, .t 23)]), .op (some 25) none (.append 1 16 (.t 18) (.t 24)), .op (some 5) none (.mv (.t 25))]
noncomputable def c84_3 : AC := .its (.op (some 18) none (.mv (.t 5)) :: .op (some 19) none (.fieldAddr 1 (.t 7)) :: .op (some 20) none (.load none (.t 19)) :: .op (some 21) none (.fieldAddr 2 (.t 7)) :: .op (some 22) none (.load none (.t 21)) :: .call (some 23) none (.c (.func (.func n_describe_term) [] [])) [.t 20, .t 22] :: c84_2)
noncomputable def c84_4 : AC := .seq (.its ([.op (some 16) none (.idxS 3 (.t 12) (.t 14)), .op (some 17) none (.load (some 3) (.t 16)), .op (some 7) none (.alloc [.bool false, .str [], .slice none 0 (some 0) 0]), .op none none (.store 3 (.t 7) (.t 17))])) c84_3
noncomputable def c84_5 : AC := .its ([.op (some 26) none (.bin .add (.t 14) (.c (.int .i64 1))), .op (some 14) none (.mv (.t 26))])
noncomputable def c84_6 : AC := .seq (.block 1 c84_4) c84_5
noncomputable def c84_7 : AC := .seq (.cond (.t 15) .skip (.exit 0)) c84_6
noncomputable def c84_8 : AC := .seq (.its ([.op (some 15) none (.bin .lss (.t 14) (.t 13))])) c84_7
noncomputable def c84_9 : AC := .loop c84_8
noncomputable def c84_10 : AC := .block 0 c84_9
noncomputable def c84_11 : List It := [.op (some 4) none (.mv (.t 31))]
noncomputable def c84_12 : List It := .op (some 30) none (.buildSlice 1 4 [.str [], .str [], .str [], .str []] [(0, 1, .t 27), (1, 1, .c (.str [111, 102])), (2, 1, .t 29), (3, 1, .c (.str [99, 108, 111, 115, 101]))]) :: .call (some 31) none (.c (.func (.func n_describe_join) [] [])) [.t 30] :: c84_11
noncomputable def c84_13 : AC := .seq (.its (.op (some 27) none (.mv (.t 0)) :: .op (some 28) none (.mv (.t 5)) :: .call (some 29) none (.c (.func (.func n_strings_Join) [] [])) [.t 28, .c (.str [32, 97, 110, 100, 32])] :: c84_12)) .ret
noncomputable def c84_14 : AC := .seq (.seq (.its ([.op (some 12) none (.mv (.t 1)), .op (some 13) none (.len .slice (.t 12)), .op (some 14) none (.mv (.c (.int .i64 0)))])) c84_10) c84_13
noncomputable def c84_15 : AC := .seq (.its ([.op (some 5) none (.mv (.c (.slice none 0 (some 0) 0)))])) c84_14
noncomputable def c84_16 : AC := .seq (.seq (.its ([.op (some 8) none (.mv (.t 1)), .op (some 9) none (.len .slice (.t 8)), .op (some 10) none (.bin .eql (.t 9) (.c (.int .i64 0)))])) c84_1) c84_15
noncomputable def c84_17 : AC := .seq (.its ([.op (some 4) none (.mv (.c (.str [])))])) c84_16
noncomputable def i_describe_term : AFunc := ⟨32, [(4, none)], c84_17⟩
theorem rf_describe_term : resF Go.Proofs.Tryz.prog n_describe_term = some i_describe_term := by kernel_rfl
noncomputable def c85_0 : List It := [.op (some 10) none (.mv (.t 12)), .op (some 13) none (.extract 0 (.t 10)), .op (some 14) none (.extract 1 (.t 10)), .op (some 6) none (.mv (.t 13)), .op (some 7) none (.mv (.t 14))]
noncomputable def c85_1 : List It := [.again 15 none (.load none (.t 2)), .op (some 18) none (.bin .add (.c (.str [108, 101, 118, 101, 108, 32])) (.t 17)), .op (some 19) none (.bin .add (.t 18) (.c (.str [58, 32]))), .op (some 21) none (.bin .add (.t 19) (.t 20)), .op (some 22) none (.buildSlice 1 1 [.str []] [(0, 1, .t 21)]), .op (some 23) none (.append 1 16 (.t 15) (.t 22)), .op none none (.store 1 (.t 2) (.t 23))]
noncomputable def c85_2 : AC := .its ([.op (some 31) none (.load none (.t 3)), .op (some 32) none (.load (some 4) (.t 9)), .op (some 33) none (.mv (.t 1)), .op (some 34) none (.bin .add (.t 33) (.c (.int .i64 1))), .call (some 35) none (.t 31) [.t 32, .t 34]])
noncomputable def c85_3 : AC := .seq (.its ([.op (some 29) none (.idxS 4 (.t 25) (.t 27)), .op (some 30) none (.load (some 4) (.t 29)), .op (some 9) none (.alloc [.int .u8 0, .str [], .slice none 0 (some 0) 0, .slice none 0 (some 0) 0]), .op none none (.store 4 (.t 9) (.t 30))])) c85_2
noncomputable def c85_4 : AC := .its ([.op (some 36) none (.bin .add (.t 27) (.c (.int .i64 1))), .op (some 27) none (.mv (.t 36))])
noncomputable def c85_5 : AC := .seq (.block 1 c85_3) c85_4
noncomputable def c85_6 : AC := .seq (.cond (.t 28) .skip (.exit 0)) c85_5
noncomputable def c85_7 : AC := .seq (.its ([.op (some 28) none (.bin .lss (.t 27) (.t 26))])) c85_6
noncomputable def c85_8 : AC := .loop c85_7
noncomputable def c85_9 : AC := .block 0 c85_8
noncomputable def c85_10 : AC := .seq (.its ([.op (some 24) none (.fieldAddr 3 (.t 4)), .op (some 25) none (.load none (.t 24)), .op (some 26) none (.len .slice (.t 25)), .op (some 27) none (.mv (.c (.int .i64 0)))])) c85_9
noncomputable def c85_11 : AC := .seq (.its (.op (some 15) none (.load none (.t 2)) :: .op (some 16) none (.mv (.t 1)) :: .op (some 20) none (.mv (.t 6)) :: .call (some 17) none (.c (.func (.func n_strconv_Itoa) [] [])) [.t 16] :: c85_1)) c85_10
noncomputable def c85_12 : AC := .seq (.its (.op (some 11) none (.load (some 4) (.t 4)) :: .call (some 12) none (.c (.func (.func n_describe_head) [] [])) [.t 11] :: c85_0)) c85_11
noncomputable def c85_13 : AC := .seq (.its ([.op (some 4) none (.box (.t 0))])) c85_12
noncomputable def i_describe_OutlineS1 : AFunc := ⟨37, [], c85_13⟩
theorem rf_describe_OutlineS1 : resF Go.Proofs.Tryz.prog n_describe_OutlineS1 = some i_describe_OutlineS1 := by kernel_rfl
noncomputable def c86_0 : AC := .seq (.its ([.op (some 4) none (.mv (.c (.int .i64 (-1))))])) .ret
noncomputable def c86_1 : AC := .seq (.its ([.op (some 4) none (.mv (.c (.int .i64 1)))])) .ret
noncomputable def c86_2 : AC := .cond (.t 13) c86_1 .skip
noncomputable def c86_3 : AC := .seq (.its ([.op (some 14) none (.fieldAddr 0 (.t 3)), .op (some 15) none (.load none (.t 14)), .op (some 16) none (.mv (.t 15)), .op (some 17) (some (16, true)) (.fieldAddr 0 (.t 2)), .op (some 18) (some (16, true)) (.load none (.t 17)), .op (some 19) (some (16, true)) (.un .not (.t 18)), .op (some 20) none (.pick (.t 16) (.t 19) (.c (.bool false))), .op (some 13) none (.mv (.t 20))])) c86_2
noncomputable def c86_4 : AC := .cond (.t 5) c86_0 c86_3
noncomputable def c86_5 : AC := .seq (.its ([.op (some 6) none (.fieldAddr 0 (.t 2)), .op (some 7) none (.load none (.t 6)), .op (some 8) none (.mv (.t 7)), .op (some 9) (some (8, true)) (.fieldAddr 0 (.t 3)), .op (some 10) (some (8, true)) (.load none (.t 9)), .op (some 11) (some (8, true)) (.un .not (.t 10)), .op (some 12) none (.pick (.t 8) (.t 11) (.c (.bool false))), .op (some 5) none (.mv (.t 12))])) c86_4
noncomputable def c86_6 : List It := [.op (some 4) none (.mv (.t 32))]
noncomputable def c86_7 : List It := .op (some 31) none (.buildSlice 1 2 [.int .i64 0, .int .i64 0] [(0, 1, .t 25), (1, 1, .t 30)]) :: .call (some 32) none (.c (.func (.func n_cmp_Or_int) [] [])) [.t 31] :: c86_6
noncomputable def c86_8 : List It := .again 29 none (.load none (.t 28)) :: .again 27 none (.load none (.t 26)) :: .call (some 30) none (.c (.func (.func n_syntax_lists_api_Term) [] [])) [.t 27, .t 29, .c (.func (.func n_syntax_byTerm) [] [])] :: c86_7
noncomputable def c86_9 : AC := .seq (.its (.op (some 21) none (.fieldAddr 1 (.t 2)) :: .op (some 22) none (.load none (.t 21)) :: .op (some 23) none (.fieldAddr 1 (.t 3)) :: .op (some 24) none (.load none (.t 23)) :: .op (some 26) none (.fieldAddr 2 (.t 2)) :: .op (some 27) none (.load none (.t 26)) :: .op (some 28) none (.fieldAddr 2 (.t 3)) :: .op (some 29) none (.load none (.t 28)) :: .call (some 25) none (.c (.func (.func n_cmp_Compare_string) [] [])) [.t 22, .t 24] :: c86_8)) .ret
noncomputable def c86_10 : AC := .seq (.block 0 c86_5) c86_9
noncomputable def c86_11 : AC := .seq (.its ([.op (some 2) none (.box (.t 0)), .op (some 3) none (.box (.t 1)), .op (some 4) none (.mv (.c (.int .i64 0)))])) c86_10
noncomputable def i_syntax_byTerm : AFunc := ⟨33, [(4, none)], c86_11⟩
theorem rf_syntax_byTerm : resF Go.Proofs.Tryz.prog n_syntax_byTerm = some i_syntax_byTerm := by kernel_rfl
noncomputable def c87_0 : List It := [.op (some 4) none (.mv (.t 26))]
noncomputable def c87_1 : List It := .op (some 25) none (.buildSlice 1 4 [.int .i64 0, .int .i64 0, .int .i64 0, .int .i64 0] [(0, 1, .t 9), (1, 1, .t 14), (2, 1, .t 19), (3, 1, .t 24)]) :: .call (some 26) none (.c (.func (.func n_cmp_Or_int) [] [])) [.t 25] :: c87_0
noncomputable def c87_2 : List It := .again 23 none (.load none (.t 22)) :: .again 21 none (.load none (.t 20)) :: .call (some 24) none (.c (.func (.func n_syntax_lists_api_Form) [] [])) [.t 21, .t 23, .c (.func (.func n_syntax_Compare) [] [])] :: c87_1
noncomputable def c87_3 : List It := .again 23 none (.load none (.t 22)) :: .again 21 none (.load none (.t 20)) :: .again 18 none (.load none (.t 17)) :: .again 16 none (.load none (.t 15)) :: .call (some 19) none (.c (.func (.func n_syntax_lists_api_Term) [] [])) [.t 16, .t 18, .c (.func (.func n_syntax_byTerm) [] [])] :: c87_2
noncomputable def c87_4 : List It := .again 23 none (.load none (.t 22)) :: .again 21 none (.load none (.t 20)) :: .again 18 none (.load none (.t 17)) :: .again 16 none (.load none (.t 15)) :: .again 13 none (.load none (.t 12)) :: .again 11 none (.load none (.t 10)) :: .call (some 14) none (.c (.func (.func n_cmp_Compare_string) [] [])) [.t 11, .t 13] :: c87_3
noncomputable def c87_5 : AC := .seq (.its (.op (some 5) none (.fieldAddr 0 (.t 2)) :: .op (some 6) none (.load none (.t 5)) :: .op (some 7) none (.fieldAddr 0 (.t 3)) :: .op (some 8) none (.load none (.t 7)) :: .op (some 10) none (.fieldAddr 1 (.t 2)) :: .op (some 11) none (.load none (.t 10)) :: .op (some 12) none (.fieldAddr 1 (.t 3)) :: .op (some 13) none (.load none (.t 12)) :: .op (some 15) none (.fieldAddr 2 (.t 2)) :: .op (some 16) none (.load none (.t 15)) :: .op (some 17) none (.fieldAddr 2 (.t 3)) :: .op (some 18) none (.load none (.t 17)) :: .op (some 20) none (.fieldAddr 3 (.t 2)) :: .op (some 21) none (.load none (.t 20)) :: .op (some 22) none (.fieldAddr 3 (.t 3)) :: .op (some 23) none (.load none (.t 22)) :: .call (some 9) none (.c (.func (.func n_cmp_Compare_uint8) [] [])) [.t 6, .t 8] :: c87_4)) .ret
noncomputable def c87_6 : AC := .seq (.its ([.op (some 2) none (.box (.t 0)), .op (some 3) none (.box (.t 1)), .op (some 4) none (.mv (.c (.int .i64 0)))])) c87_5
noncomputable def i_syntax_Compare : AFunc := ⟨27, [(4, none)], c87_6⟩
theorem rf_syntax_Compare : resF Go.Proofs.Tryz.prog n_syntax_Compare = some i_syntax_Compare := by kernel_rfl
noncomputable def c88_0 : AC := .seq (.its ([.op (some 4) none (.mv (.c (.bool false)))])) .ret
noncomputable def c88_1 : AC := .cond (.t 10) c88_0 .skip
noncomputable def c88_2 : AC := .cond (.t 14) .skip (.exit 0)
noncomputable def c88_3 : List It := [.op (some 26) none (.un .not (.t 25))]
noncomputable def c88_4 : AC := .seq (.its ([.op (some 4) none (.mv (.c (.bool false)))])) .ret
noncomputable def c88_5 : AC := .cond (.t 26) c88_4 .skip
noncomputable def c88_6 : AC := .seq (.its (.op (some 17) none (.mv (.t 0)) :: .op (some 18) none (.mv (.t 5)) :: .op (some 19) none (.idxS 3 (.t 17) (.t 18)) :: .op (some 20) none (.load (some 3) (.t 19)) :: .op (some 21) none (.mv (.t 1)) :: .op (some 22) none (.mv (.t 5)) :: .op (some 23) none (.idxS 3 (.t 21) (.t 22)) :: .op (some 24) none (.load (some 3) (.t 23)) :: .call (some 25) none (.c (.func (.func n_kit_SameTerm) [] [])) [.t 20, .t 24] :: c88_3)) c88_5
noncomputable def c88_7 : AC := .its ([.op (some 15) none (.mv (.t 5)), .op (some 16) none (.bin .add (.t 15) (.c (.int .i64 1))), .op (some 5) none (.mv (.t 16))])
noncomputable def c88_8 : AC := .seq (.block 1 c88_6) c88_7
noncomputable def c88_9 : AC := .seq (.seq (.its ([.op (some 11) none (.mv (.t 5)), .op (some 12) none (.mv (.t 0)), .op (some 13) none (.len .slice (.t 12)), .op (some 14) none (.bin .lss (.t 11) (.t 13))])) c88_2) c88_8
noncomputable def c88_10 : AC := .loop c88_9
noncomputable def c88_11 : AC := .block 0 c88_10
noncomputable def c88_12 : AC := .seq (.its ([.op (some 4) none (.mv (.c (.bool true)))])) .ret
noncomputable def c88_13 : AC := .seq (.seq (.its ([.op (some 5) none (.mv (.c (.int .i64 0)))])) c88_11) c88_12
noncomputable def c88_14 : AC := .seq (.seq (.its ([.op (some 6) none (.mv (.t 0)), .op (some 7) none (.len .slice (.t 6)), .op (some 8) none (.mv (.t 1)), .op (some 9) none (.len .slice (.t 8)), .op (some 10) none (.bin .neq (.t 7) (.t 9))])) c88_1) c88_13
noncomputable def c88_15 : AC := .seq (.its ([.op (some 4) none (.mv (.c (.bool false)))])) c88_14
noncomputable def i_kit_SameTerms : AFunc := ⟨27, [(4, none)], c88_15⟩
theorem rf_kit_SameTerms : resF Go.Proofs.Tryz.prog n_kit_SameTerms = some i_kit_SameTerms := by kernel_rfl
noncomputable def c89_0 : List It := [.op (some 3) none (.mv (.t 8))]
noncomputable def c89_1 : List It := [.op (some 19) none (.max [.t 16, .t 18]), .op (some 3) none (.mv (.t 19))]
noncomputable def c89_2 : AC := .its (.op (some 16) none (.mv (.t 3)) :: .op (some 17) none (.load (some 4) (.t 5)) :: .call (some 18) none (.c (.func (.func n_syntax_Depth) [] [])) [.t 17] :: c89_1)
noncomputable def c89_3 : AC := .seq (.its ([.op (some 14) none (.idxS 4 (.t 10) (.t 12)), .op (some 15) none (.load (some 4) (.t 14)), .op (some 5) none (.alloc [.int .u8 0, .str [], .slice none 0 (some 0) 0, .slice none 0 (some 0) 0]), .op none none (.store 4 (.t 5) (.t 15))])) c89_2
noncomputable def c89_4 : AC := .its ([.op (some 20) none (.bin .add (.t 12) (.c (.int .i64 1))), .op (some 12) none (.mv (.t 20))])
noncomputable def c89_5 : AC := .seq (.block 1 c89_3) c89_4
noncomputable def c89_6 : AC := .seq (.cond (.t 13) .skip (.exit 0)) c89_5
noncomputable def c89_7 : AC := .seq (.its ([.op (some 13) none (.bin .lss (.t 12) (.t 11))])) c89_6
noncomputable def c89_8 : AC := .loop c89_7
noncomputable def c89_9 : AC := .block 0 c89_8
noncomputable def c89_10 : AC := .seq (.its ([.op (some 21) none (.mv (.t 3)), .op (some 22) none (.bin .add (.t 21) (.c (.int .i64 1))), .op (some 2) none (.mv (.t 22))])) .ret
noncomputable def c89_11 : AC := .seq (.seq (.its ([.op (some 9) none (.fieldAddr 3 (.t 1)), .op (some 10) none (.load none (.t 9)), .op (some 11) none (.len .slice (.t 10)), .op (some 12) none (.mv (.c (.int .i64 0)))])) c89_9) c89_10
noncomputable def c89_12 : AC := .seq (.its (.op (some 6) none (.fieldAddr 2 (.t 1)) :: .op (some 7) none (.load none (.t 6)) :: .call (some 8) none (.c (.func (.func n_syntax_high) [] [])) [.t 7] :: c89_0)) c89_11
noncomputable def c89_13 : AC := .seq (.its ([.op (some 1) none (.box (.t 0)), .op (some 2) none (.mv (.c (.int .i64 0)))])) c89_12
noncomputable def i_syntax_Depth : AFunc := ⟨23, [(2, none)], c89_13⟩
theorem rf_syntax_Depth : resF Go.Proofs.Tryz.prog n_syntax_Depth = some i_syntax_Depth := by kernel_rfl
noncomputable def c90_0 : List It := [.op (some 15) none (.buildSlice 1 1 [.str []] [(0, 1, .t 14)]), .op (some 16) none (.append 1 16 (.t 12) (.t 15)), .op (some 3) none (.mv (.t 16))]
noncomputable def c90_1 : AC := .its (.op (some 12) none (.mv (.t 3)) :: .op (some 13) none (.mv (.t 5)) :: .call (some 14) none (.c (.func (.func n_strconv_Itoa) [] [])) [.t 13] :: c90_0)
noncomputable def c90_2 : AC := .seq (.its ([.op (some 10) none (.idxS 1 (.t 6) (.t 8)), .op (some 11) none (.load none (.t 10)), .op (some 5) none (.mv (.t 11))])) c90_1
noncomputable def c90_3 : AC := .its ([.op (some 17) none (.bin .add (.t 8) (.c (.int .i64 1))), .op (some 8) none (.mv (.t 17))])
noncomputable def c90_4 : AC := .seq (.block 1 c90_2) c90_3
noncomputable def c90_5 : AC := .seq (.cond (.t 9) .skip (.exit 0)) c90_4
noncomputable def c90_6 : AC := .seq (.its ([.op (some 9) none (.bin .lss (.t 8) (.t 7))])) c90_5
noncomputable def c90_7 : AC := .loop c90_6
noncomputable def c90_8 : AC := .block 0 c90_7
noncomputable def c90_9 : List It := [.op (some 2) none (.mv (.t 19))]
noncomputable def c90_10 : AC := .seq (.its (.op (some 18) none (.mv (.t 3)) :: .call (some 19) none (.c (.func (.func n_strings_Join) [] [])) [.t 18, .c (.str [32, 97, 110, 100, 32])] :: c90_9)) .ret
noncomputable def c90_11 : AC := .seq (.seq (.its ([.op (some 6) none (.mv (.t 0)), .op (some 7) none (.len .slice (.t 6)), .op (some 8) none (.mv (.c (.int .i64 0)))])) c90_8) c90_10
noncomputable def c90_12 : AC := .seq (.its ([.op (some 3) none (.mv (.c (.slice none 0 (some 0) 0)))])) c90_11
noncomputable def c90_13 : AC := .seq (.its ([.op (some 2) none (.mv (.c (.str [])))])) c90_12
noncomputable def i_describe_list : AFunc := ⟨20, [(2, none)], c90_13⟩
theorem rf_describe_list : resF Go.Proofs.Tryz.prog n_describe_list = some i_describe_list := by kernel_rfl
noncomputable def c91_0 : AC := .seq (.its ([.op (some 17) none (.mv (.t 5)), .op (some 4) none (.mv (.t 17))])) .ret
noncomputable def c91_1 : AC := .cond (.t 16) c91_0 .skip
noncomputable def c91_2 : AC := .seq (.its ([.op (some 11) none (.mv (.t 1)), .op (some 12) none (.mv (.t 0)), .op (some 13) none (.mv (.t 5)), .op (some 14) none (.idxS 1 (.t 12) (.t 13)), .op (some 15) none (.load none (.t 14)), .op (some 16) none (.bin .eql (.t 11) (.t 15))])) c91_1
noncomputable def c91_3 : AC := .seq (.its ([.op (some 10) none (.mv (.t 8)), .op (some 5) none (.mv (.t 10))])) c91_2
noncomputable def c91_4 : AC := .its ([.op (some 18) none (.bin .add (.t 8) (.c (.int .i64 1))), .op (some 8) none (.mv (.t 18))])
noncomputable def c91_5 : AC := .seq (.block 1 c91_3) c91_4
noncomputable def c91_6 : AC := .seq (.cond (.t 9) .skip (.exit 0)) c91_5
noncomputable def c91_7 : AC := .seq (.its ([.op (some 9) none (.bin .lss (.t 8) (.t 7))])) c91_6
noncomputable def c91_8 : AC := .loop c91_7
noncomputable def c91_9 : AC := .block 0 c91_8
noncomputable def c91_10 : AC := .seq (.its ([.op (some 4) none (.mv (.c (.int .i64 (-1))))])) .ret
noncomputable def c91_11 : AC := .seq (.seq (.its ([.op (some 6) none (.mv (.t 0)), .op (some 7) none (.len .slice (.t 6)), .op (some 8) none (.mv (.c (.int .i64 0)))])) c91_9) c91_10
noncomputable def c91_12 : AC := .seq (.its ([.op (some 4) none (.mv (.c (.int .i64 0)))])) c91_11
noncomputable def i_slices_Index_string : AFunc := ⟨19, [(4, none)], c91_12⟩
theorem rf_slices_Index_string : resF Go.Proofs.Tryz.prog n_slices_Index_string = some i_slices_Index_string := by kernel_rfl
noncomputable def i_describe_fact : AFunc := ⟨53, [(4, none)], qa [qo 2 (.box (.t 0)), qo 3 (.box (.t 1)), qk 4 (.str [])] (.seq (.block 0 (qa [qo 6 (.fieldAddr 0 (.t 2)), ql 7 6, qb 8 .neq (.t 7) (.c (qu 1)), qm 9 8, qg 10 9 true (.fieldAddr 0 (.t 2)), qg 11 9 true (.load none (.t 10)), qg 12 9 true (.bin .neq (.t 11) (.c (qu 2))), qq 13 9 12, qm 5 13] (.cond (.t 5) (qa [qo 14 (.fieldAddr 0 (.t 3)), ql 15 14, qo 16 (.fieldAddr 2 (.t 3)), ql 17 16, qc 18 50 [.t 17], .again 15 none (.load none (.t 14)), qo 19 (.buildSlice 1 3 [.str [], .str [], .str []] [(0, 1, .t 15), (1, 1, qy [105, 115, 32, 116, 114, 117, 101, 32, 97, 116]), (2, 1, .t 18)]), qc 20 31 [.t 19], qm 4 20] .ret) (qa [qo 22 (.fieldAddr 1 (.t 3)), ql 23 22, qb 24 .eql (.t 23) (qx 1), qm 21 24] (.cond (.t 21) (qa [qo 25 (.fieldAddr 0 (.t 3)), ql 26 25, qo 27 (.fieldAddr 2 (.t 3)), ql 28 27, qc 29 50 [.t 28], .again 26 none (.load none (.t 25)), qo 30 (.buildSlice 1 3 [.str [], .str [], .str []] [(0, 1, .t 26), (1, 1, qy [104, 111, 108, 100, 115, 32, 111, 102]), (2, 1, .t 29)]), qc 31 31 [.t 30], qm 4 31] .ret) (qa [qo 33 (.fieldAddr 1 (.t 3)), ql 34 33, qb 35 .eql (.t 34) (qx 2), qm 32 35] (.cond (.t 32) (qa [qo 36 (.fieldAddr 0 (.t 3)), ql 37 36, qo 38 (.fieldAddr 1 (.t 2)), ql 39 38, qo 40 (.fieldAddr 2 (.t 3)), ql 41 40, qc 42 87 [.t 39, .t 41], .again 37 none (.load none (.t 36)), qo 43 (.buildSlice 1 3 [.str [], .str [], .str []] [(0, 1, .t 37), (1, 1, qy [104, 111, 108, 100, 115, 32, 111, 102]), (2, 1, .t 42)]), qc 44 31 [.t 43], qm 4 44] .ret) .skip))))))) (qa [qo 45 (.fieldAddr 0 (.t 3)), ql 46 45, qo 47 (.fieldAddr 2 (.t 3)), ql 48 47, qb 49 .eql (.t 48) (qx 1), qc 50 88 [.t 49], .again 46 none (.load none (.t 45)), qo 51 (.buildSlice 1 3 [.str [], .str [], .str []] [(0, 1, .t 46), (1, 1, qy [105, 115]), (2, 1, .t 50)]), qc 52 31 [.t 51], qm 4 52] .ret))⟩
theorem rf_describe_fact : resF Go.Proofs.Tryz.prog 49 = some i_describe_fact := by kernel_rfl
noncomputable def c92_0 : List It := [.op (some 8) none (.un .not (.t 7))]
noncomputable def c92_1 : AC := .seq (.its ([.op (some 2) none (.mv (.c (.slice none 0 (some 0) 0))), .op (some 3) none (.mv (.c (.int .i64 2)))])) .ret
noncomputable def c92_2 : AC := .cond (.t 8) c92_1 .skip
noncomputable def c92_3 : AC := .seq (.its ([.op (some 13) none (.load none (.t 4)), .op (some 2) none (.mv (.t 13)), .op (some 3) none (.mv (.c (.int .i64 0)))])) .ret
noncomputable def c92_4 : AC := .seq (.its ([.op (some 10) none (.load none (.t 5)), .op (some 11) none (.load (some 8) (.t 1)), .call (some 12) none (.t 10) [.t 11]])) c92_3
noncomputable def c92_5 : AC := .seq (.its ([.op (some 9) none (.mkFunc (.func n_describe_ProofS1) [] [.t 5, .t 4]), .op none none (.store 1 (.t 5) (.t 9))])) c92_4
noncomputable def c92_6 : AC := .seq (.its ([.op (some 5) none (.alloc [.nilFunc])])) c92_5
noncomputable def c92_7 : AC := .seq (.its ([.op (some 4) none (.alloc [.slice none 0 (some 0) 0])])) c92_6
noncomputable def c92_8 : AC := .seq (.seq (.its (.op (some 6) none (.load (some 8) (.t 1)) :: .call (some 7) none (.c (.func (.func n_describe_whole) [] [])) [.t 6] :: c92_0)) c92_2) c92_7
noncomputable def c92_9 : AC := .seq (.its ([.op (some 1) none (.box (.t 0)), .op (some 2) none (.mv (.c (.slice none 0 (some 0) 0))), .op (some 3) none (.mv (.c (.int .i64 0)))])) c92_8
noncomputable def i_describe_Proof : AFunc := ⟨14, [(2, none), (3, none)], c92_9⟩
theorem rf_describe_Proof : resF Go.Proofs.Tryz.prog n_describe_Proof = some i_describe_Proof := by kernel_rfl
noncomputable def c93_0 : List It := [.op (some 23) none (.pick (.t 17) (.t 22) (.c (.bool false))), .op (some 4) none (.mv (.t 23))]
noncomputable def c93_1 : AC := .seq (.its (.op (some 5) none (.fieldAddr 0 (.t 2)) :: .op (some 6) none (.load none (.t 5)) :: .op (some 7) none (.fieldAddr 0 (.t 3)) :: .op (some 8) none (.load none (.t 7)) :: .op (some 9) none (.eq (.basic .bool) false (.t 6) (.t 8)) :: .op (some 10) none (.mv (.t 9)) :: .op (some 11) (some (10, true)) (.fieldAddr 1 (.t 2)) :: .op (some 12) (some (10, true)) (.load none (.t 11)) :: .op (some 13) (some (10, true)) (.fieldAddr 1 (.t 3)) :: .op (some 14) (some (10, true)) (.load none (.t 13)) :: .op (some 15) (some (10, true)) (.bin .eql (.t 12) (.t 14)) :: .op (some 16) none (.pick (.t 10) (.t 15) (.c (.bool false))) :: .op (some 17) none (.mv (.t 16)) :: .op (some 18) (some (17, true)) (.fieldAddr 2 (.t 2)) :: .op (some 19) (some (17, true)) (.load none (.t 18)) :: .op (some 20) (some (17, true)) (.fieldAddr 2 (.t 3)) :: .op (some 21) (some (17, true)) (.load none (.t 20)) :: .call (some 22) (some (17, true)) (.c (.func (.func n_kit_SameTerms) [] [])) [.t 19, .t 21] :: c93_0)) .ret
noncomputable def c93_2 : AC := .seq (.its ([.op (some 2) none (.box (.t 0)), .op (some 3) none (.box (.t 1)), .op (some 4) none (.mv (.c (.bool false)))])) c93_1
noncomputable def i_kit_SameTerm : AFunc := ⟨24, [(4, none)], c93_2⟩
theorem rf_kit_SameTerm : resF Go.Proofs.Tryz.prog n_kit_SameTerm = some i_kit_SameTerm := by kernel_rfl
noncomputable def i_describe_beginS4 : AFunc := ⟨34, [(3, some (some 4))], qa [qo 2 (.box (.t 0)), qo 3 (.alloc [qu 0, .str [], .slice none 0 (some 0) 0, .slice none 0 (some 0) 0])] (qa [qo 5 (.fieldAddr 0 (.t 1)), ql 6 5, qo 7 (.build [qu 0, .str [], .slice none 0 (some 0) 0, .slice none 0 (some 0) 0] [(0, 1, .t 6)]), qo 4 (.alloc [qu 0, .str [], .slice none 0 (some 0) 0, .slice none 0 (some 0) 0]), qs 4 4 7] (.seq (qa [qo 8 (.fieldAddr 0 (.t 1)), ql 9 8, qb 10 .eql (.t 9) (.c (qu 2))] (.cond (.t 10) (qa [qn 11 4 4, qs 4 3 11] .ret) .skip)) (qa [qo 12 (.fieldAddr 3 (.t 4)), ql 13 12, qn 14 4 2, qc 15 44 [.t 14], .again 13 none (.load none (.t 12)), qo 16 (.buildSlice 4 1 [qu 0, .str [], .slice none 0 (some 0) 0, .slice none 0 (some 0) 0] [(0, 4, .t 15)]), qo 17 (.append 4 72 (.t 13) (.t 16)), qo 18 (.fieldAddr 3 (.t 4)), qs 1 18 17] (.seq (qa [qo 19 (.fieldAddr 2 (.t 1)), ql 20 19, qb 21 .neq (.t 20) (qy [])] (.cond (.t 21) (qa [qn 22 4 2, qo 23 (.fieldAddr 2 (.t 1)), ql 24 23, qc 25 75 [.t 22, .t 24]] (.its [qo 26 (.fieldAddr 3 (.t 4)), ql 27 26, qn 28 4 2, qc 29 44 [.t 28], .again 27 none (.load none (.t 26)), qo 30 (.buildSlice 4 1 [qu 0, .str [], .slice none 0 (some 0) 0, .slice none 0 (some 0) 0] [(0, 4, .t 29)]), qo 31 (.append 4 72 (.t 27) (.t 30)), qo 32 (.fieldAddr 3 (.t 4)), qs 1 32 31])) .skip)) (qa [qn 33 4 4, qs 4 3 33] .ret)))))⟩
theorem rf_describe_beginS4 : resF Go.Proofs.Tryz.prog 74 = some i_describe_beginS4 := by kernel_rfl
noncomputable def c94_0 : List It := [.op (some 6) none (.un .not (.t 5))]
noncomputable def c94_1 : AC := .seq (.its ([.op (some 2) none (.mv (.c (.str []))), .op (some 3) none (.mv (.c (.int .i64 2)))])) .ret
noncomputable def c94_2 : AC := .cond (.t 6) c94_1 .skip
noncomputable def c94_3 : List It := [.op (some 2) none (.mv (.t 8)), .op (some 3) none (.mv (.c (.int .i64 0)))]
noncomputable def c94_4 : AC := .seq (.its (.op (some 7) none (.load (some 4) (.t 1)) :: .call (some 8) none (.c (.func (.func n_describe_text) [] [])) [.t 7] :: c94_3)) .ret
noncomputable def c94_5 : AC := .seq (.seq (.its (.op (some 4) none (.load (some 4) (.t 1)) :: .call (some 5) none (.c (.func (.func n_syntax_Right) [] [])) [.t 4] :: c94_0)) c94_2) c94_4
noncomputable def c94_6 : AC := .seq (.its ([.op (some 1) none (.box (.t 0)), .op (some 2) none (.mv (.c (.str []))), .op (some 3) none (.mv (.c (.int .i64 0)))])) c94_5
noncomputable def i_describe_Form : AFunc := ⟨9, [(2, none), (3, none)], c94_6⟩
theorem rf_describe_Form : resF Go.Proofs.Tryz.prog n_describe_Form = some i_describe_Form := by kernel_rfl
noncomputable def i_describe_reader_form : AFunc := ⟨26, [(2, some (some 4))], qa [qo 1 (.box (.t 0)), qo 2 (.alloc [qu 0, .str [], .slice none 0 (some 0) 0, .slice none 0 (some 0) 0])] (.seq (qa [qo 5 (.fieldAddr 2 (.t 1)), ql 6 5, .call (some 7) none (.t 6) []] (.cond (.t 7) (qa [qo 8 (.build [qu 0, .str [], .slice none 0 (some 0) 0, .slice none 0 (some 0) 0] []), qs 4 2 8] .ret) .skip)) (qa [qo 9 (.fieldAddr 0 (.t 1)), ql 10 9, qo 11 (.mkFunc (.func 80) [] [.t 1]), .call (some 12) none (.t 10) [.t 11], qm 3 12] (.seq (qa [qo 13 (.fieldAddr 3 (.t 1)), ql 14 13, qm 15 3, qo 16 (.lookup .str false .nilFunc (.t 14) (.t 15)), qm 4 16] (qa [qm 17 4, qo 18 (.eq (.nilOf .func) true (.t 17) (.c .nilFunc))] (.cond (.t 18) (qa [qm 19 4, qn 20 4 1, .call (some 21) none (.t 19) [.t 20], qs 4 2 21] .ret) .skip))) (qa [qm 22 3, qn 23 4 1, qc 24 82 [.t 23], qo 25 (.build [qu 0, .str [], .slice none 0 (some 0) 0, .slice none 0 (some 0) 0] [(0, 1, .c (qu 1)), (1, 1, .t 22), (2, 1, .t 24)]), qs 4 2 25] .ret))))⟩
theorem rf_describe_reader_form : resF Go.Proofs.Tryz.prog 44 = some i_describe_reader_form := by kernel_rfl
noncomputable def c95_0 : List It := [.op (some 8) none (.pick (.t 5) (.t 7) (.c (.bool false))), .op (some 2) none (.mv (.t 8))]
noncomputable def c95_1 : List It := .op (some 5) none (.mv (.t 4)) :: .op (some 6) (some (5, true)) (.load (some 4) (.t 1)) :: .call (some 7) (some (5, true)) (.c (.func (.func n_syntax_shape) [] [])) [.t 6, .c (.int .i64 0)] :: c95_0
noncomputable def c95_2 : AC := .seq (.its (.op (some 3) none (.load (some 4) (.t 1)) :: .call (some 4) none (.c (.func (.func n_syntax_fits) [] [])) [.t 3] :: c95_1)) .ret
noncomputable def c95_3 : AC := .seq (.its ([.op (some 1) none (.box (.t 0)), .op (some 2) none (.mv (.c (.bool false)))])) c95_2
noncomputable def i_syntax_Right : AFunc := ⟨9, [(2, none)], c95_3⟩
theorem rf_syntax_Right : resF Go.Proofs.Tryz.prog n_syntax_Right = some i_syntax_Right := by kernel_rfl
noncomputable def c96_0 : List It := [.op (some 8) none (.bin .geq (.t 7) (.c (.int .i64 0))), .op (some 4) none (.mv (.t 8))]
noncomputable def c96_1 : AC := .seq (.its (.op (some 5) none (.mv (.t 0)) :: .op (some 6) none (.mv (.t 1)) :: .call (some 7) none (.c (.func (.func n_slices_IndexFunc_api_Term) [] [])) [.t 5, .t 6] :: c96_0)) .ret
noncomputable def c96_2 : AC := .seq (.its ([.op (some 4) none (.mv (.c (.bool false)))])) c96_1
noncomputable def i_slices_ContainsFunc_api_Term : AFunc := ⟨9, [(4, none)], c96_2⟩
theorem rf_slices_ContainsFunc_api_Term : resF Go.Proofs.Tryz.prog n_slices_ContainsFunc_api_Term = some i_slices_ContainsFunc_api_Term := by kernel_rfl
noncomputable def i_describe_nameS1 : AFunc := ⟨25, [(2, none)], qa [qk 2 (.bool false)] (qa [qm 3 0, qb 4 .lss (.t 3) (.c (.int .i32 97)), qm 5 4, qh 6 5 false 0, qg 7 5 false (.bin .gtr (.t 6) (.c (.int .i32 122))), qp 8 5 7, qm 9 8, qh 10 9 true 0, qg 11 9 true (.bin .lss (.t 10) (.c (.int .i32 65))), qh 12 9 true 11, qh 13 12 false 0, qg 14 12 false (.bin .gtr (.t 13) (.c (.int .i32 90))), qg 15 9 true (.pick (.t 12) (.c (.bool true)) (.t 14)), qq 16 9 15, qm 17 16, qh 18 17 true 0, qg 19 17 true (.bin .lss (.t 18) (.c (.int .i32 48))), qh 20 17 true 19, qh 21 20 false 0, qg 22 20 false (.bin .gtr (.t 21) (.c (.int .i32 57))), qg 23 17 true (.pick (.t 20) (.c (.bool true)) (.t 22)), qq 24 17 23, qm 2 24] .ret)⟩
theorem rf_describe_nameS1 : resF Go.Proofs.Tryz.prog 135 = some i_describe_nameS1 := by kernel_rfl
noncomputable def i_holds_kinds : AFunc := ⟨15, [(2, some (some 6))], qa [qo 2 (.alloc [.nilIface, .nilIface, .nilIface, .nilIface, .nilIface, .nilIface])] (qa [qo 3 (.build [] []), qo 4 (.mkIface 198 (.t 3)), qo 5 (.build [] []), qo 6 (.mkIface 199 (.t 5)), qo 7 (.build [qu 0, qu 0] [(0, 1, .c (qu 3)), (1, 1, .c (qu 0))]), qo 8 (.mkIface 201 (.t 7)), qm 9 0, qo 10 (.build [qu 0, qu 0] [(0, 1, .c (qu 4)), (1, 1, .t 9)]), qo 11 (.mkIface 201 (.t 10)), qo 12 (.build [] []), qo 13 (.mkIface 202 (.t 12)), qo 14 (.build [.nilIface, .nilIface, .nilIface, .nilIface, .nilIface, .nilIface] [(0, 1, .c .nilIface), (1, 1, .t 4), (2, 1, .t 6), (3, 1, .t 8), (4, 1, .t 11), (5, 1, .t 13)]), qs 6 2 14] .ret)⟩
theorem rf_holds_kinds : resF Go.Proofs.Tryz.prog 121 = some i_holds_kinds := by kernel_rfl
noncomputable def c97_0 : AC := .seq (.its ([.op (some 3) none (.mv (.t 0)), .op (some 4) none (.bin .geq (.t 3) (.c (.int .u8 117))), .op (some 5) none (.mv (.t 4)), .op (some 6) (some (5, true)) (.mv (.t 0)), .op (some 7) (some (5, true)) (.bin .leq (.t 6) (.c (.int .u8 122))), .op (some 8) none (.pick (.t 5) (.t 7) (.c (.bool false))), .op (some 2) none (.mv (.t 8))])) .ret
noncomputable def c97_1 : AC := .seq (.its ([.op (some 2) none (.mv (.c (.bool false)))])) c97_0
noncomputable def i_syntax_VariableS1 : AFunc := ⟨9, [(2, none)], c97_1⟩
theorem rf_syntax_VariableS1 : resF Go.Proofs.Tryz.prog n_syntax_VariableS1 = some i_syntax_VariableS1 := by kernel_rfl
noncomputable def c98_0 : List It := [.op (some 7) none (.un .not (.t 6)), .op (some 3) none (.mv (.t 7))]
noncomputable def c98_1 : AC := .seq (.its (.op (some 4) none (.load (some 3) (.t 2)) :: .op (some 5) none (.load none (.t 1)) :: .call (some 6) none (.c (.func (.func n_syntax_term) [] [])) [.t 4, .t 5] :: c98_0)) .ret
noncomputable def c98_2 : AC := .seq (.its ([.op (some 2) none (.box (.t 0)), .op (some 3) none (.mv (.c (.bool false)))])) c98_1
noncomputable def i_syntax_shapeS1 : AFunc := ⟨8, [(3, none)], c98_2⟩
theorem rf_syntax_shapeS1 : resF Go.Proofs.Tryz.prog n_syntax_shapeS1 = some i_syntax_shapeS1 := by kernel_rfl
noncomputable def c99_0 : List It := [.op (some 4) none (.mv (.t 7))]
noncomputable def c99_1 : AC := .seq (.its (.op (some 5) none (.mv (.t 0)) :: .op (some 6) none (.mv (.t 1)) :: .call (some 7) none (.c (.func (.func 172) [] [])) [.t 5, .t 6] :: c99_0)) .ret
noncomputable def c99_2 : AC := .seq (.its ([.op (some 4) none (.mv (.c (.int .i64 0)))])) c99_1
noncomputable def i_stringslite_IndexByte : AFunc := ⟨8, [(4, none)], c99_2⟩
theorem rf_stringslite_IndexByte : resF Go.Proofs.Tryz.prog n_stringslite_IndexByte = some i_stringslite_IndexByte := by kernel_rfl
noncomputable def c100_0 : List It := [.op (some 2) none (.mv (.t 4))]
noncomputable def c100_1 : AC := .seq (.its (.op (some 3) none (.mv (.t 0)) :: .call (some 4) none (.c (.func (.func n_syntax_name) [] [])) [.t 3, .c (.func (.func n_syntax_FunctionS1) [] []), .c (.func (.func n_syntax_letter) [] [])] :: c100_0)) .ret
noncomputable def c100_2 : AC := .seq (.its ([.op (some 2) none (.mv (.c (.bool false)))])) c100_1
noncomputable def i_syntax_Function : AFunc := ⟨5, [(2, none)], c100_2⟩
theorem rf_syntax_Function : resF Go.Proofs.Tryz.prog n_syntax_Function = some i_syntax_Function := by kernel_rfl
noncomputable def c101_0 : List It := [.op (some 4) none (.mv (.t 7))]
noncomputable def c101_1 : AC := .seq (.its (.op (some 5) none (.mv (.t 0)) :: .op (some 6) none (.mv (.t 1)) :: .call (some 7) none (.c (.func (.func n_strings_genSplit) [] [])) [.t 5, .t 6, .c (.int .i64 0), .c (.int .i64 (-1))] :: c101_0)) .ret
noncomputable def c101_2 : AC := .seq (.its ([.op (some 4) none (.mv (.c (.slice none 0 (some 0) 0)))])) c101_1
noncomputable def i_strings_Split : AFunc := ⟨8, [(4, none)], c101_2⟩
theorem rf_strings_Split : resF Go.Proofs.Tryz.prog n_strings_Split = some i_strings_Split := by kernel_rfl
noncomputable def c102_0 : AC := .seq (.its ([.op (some 5) none (.mv (.t 0)), .op (some 6) none (.mv (.t 1)), .op (some 7) none (.build [.int .u8 0, .str [], .slice none 0 (some 0) 0, .slice none 0 (some 0) 0] [(0, 1, .t 5), (3, 1, .t 6)]), .op none none (.store 4 (.t 4) (.t 7))])) .ret
noncomputable def c102_1 : AC := .seq (.its ([.op (some 4) none (.alloc [.int .u8 0, .str [], .slice none 0 (some 0) 0, .slice none 0 (some 0) 0])])) c102_0
noncomputable def i_law30_join : AFunc := ⟨8, [(4, some (some 4))], c102_1⟩
theorem rf_law30_join : resF Go.Proofs.Tryz.prog n_law30_join = some i_law30_join := by kernel_rfl
noncomputable def c103_0 : List It := [.op (some 7) none (.un .not (.t 6)), .op (some 3) none (.mv (.t 7))]
noncomputable def c103_1 : AC := .seq (.its (.op (some 4) none (.load none (.t 1)) :: .op (some 5) none (.mv (.t 0)) :: .call (some 6) none (.t 4) [.t 5] :: c103_0)) .ret
noncomputable def c103_2 : AC := .seq (.its ([.op (some 3) none (.mv (.c (.bool false)))])) c103_1
noncomputable def i_syntax_nameS1 : AFunc := ⟨8, [(3, none)], c103_2⟩
theorem rf_syntax_nameS1 : resF Go.Proofs.Tryz.prog n_syntax_nameS1 = some i_syntax_nameS1 := by kernel_rfl
noncomputable def c104_0 : AC := .seq (.its ([.op (some 5) none (.mv (.t 0)), .op (some 6) none (.mv (.t 1)), .op (some 7) none (.build [.bool false, .str [], .slice none 0 (some 0) 0] [(1, 1, .t 5), (2, 1, .t 6)]), .op none none (.store 3 (.t 4) (.t 7))])) .ret
noncomputable def c104_1 : AC := .seq (.its ([.op (some 4) none (.alloc [.bool false, .str [], .slice none 0 (some 0) 0])])) c104_0
noncomputable def i_law30_apply : AFunc := ⟨8, [(4, some (some 3))], c104_1⟩
theorem rf_law30_apply : resF Go.Proofs.Tryz.prog n_law30_apply = some i_law30_apply := by kernel_rfl
noncomputable def i_strings_indexFunc : AFunc := ⟨21, [(6, none)], qa [qk 6 (qi 0)] (.seq (qa [qm 9 0, qo 10 (.rangeStr (.t 9))] (.block 0 (.loop (qa [qo 11 (.nextStr (.t 10)), qe 12 0 11] (.seq (.cond (.t 12) .skip (.exit 0)) (.block 1 (qa [qe 13 1 11, qe 14 2 11, qm 7 13, qm 8 14] (qa [qm 15 1, qm 16 8, .call (some 17) none (.t 15) [.t 16], qm 18 2, qo 19 (.eq (.basic .bool) false (.t 17) (.t 18))] (.cond (.t 19) (qa [qm 20 7, qm 6 20] .ret) .skip))))))))) (qa [qk 6 (qi (-1))] .ret))⟩
theorem rf_strings_indexFunc : resF Go.Proofs.Tryz.prog 169 = some i_strings_indexFunc := by kernel_rfl
noncomputable def i_law41_bound : AFunc := ⟨12, [(6, some (some 4))], qa [qo 5 (.box (.t 2)), qo 6 (.alloc [qu 0, .str [], .slice none 0 (some 0) 0, .slice none 0 (some 0) 0])] (qa [qm 7 0, qm 8 1, qn 9 4 5, qo 10 (.buildSlice 4 1 [qu 0, .str [], .slice none 0 (some 0) 0, .slice none 0 (some 0) 0] [(0, 4, .t 9)]), qo 11 (.build [qu 0, .str [], .slice none 0 (some 0) 0, .slice none 0 (some 0) 0] [(0, 1, .t 7), (1, 1, .t 8), (3, 1, .t 10)]), qs 4 6 11] .ret)⟩
theorem rf_law41_bound : resF Go.Proofs.Tryz.prog 17 = some i_law41_bound := by kernel_rfl
noncomputable def c105_0 : AC := .seq (.its ([.op (some 3) none (.mv (.t 0)), .op (some 4) none (.mv (.t 0)), .op (some 5) none (.bin .neq (.t 3) (.t 4)), .op (some 2) none (.mv (.t 5))])) .ret
noncomputable def c105_1 : AC := .seq (.its ([.op (some 2) none (.mv (.c (.bool false)))])) c105_0
noncomputable def i_cmp_isNaN_int : AFunc := ⟨6, [(2, none)], c105_1⟩
theorem rf_cmp_isNaN_int : resF Go.Proofs.Tryz.prog n_cmp_isNaN_int = some i_cmp_isNaN_int := by kernel_rfl
noncomputable def c106_0 : AC := .seq (.its ([.op (some 3) none (.mv (.t 0)), .op (some 4) none (.bin .eql (.t 3) (.c (.str []))), .op (some 2) none (.mv (.t 4))])) .ret
noncomputable def c106_1 : AC := .seq (.its ([.op (some 2) none (.mv (.c (.bool false)))])) c106_0
noncomputable def i_syntax_none : AFunc := ⟨5, [(2, none)], c106_1⟩
theorem rf_syntax_none : resF Go.Proofs.Tryz.prog n_syntax_none = some i_syntax_none := by kernel_rfl
noncomputable def i_law41_atom : AFunc := ⟨8, [(4, some (some 4))], qa [qo 4 (.alloc [qu 0, .str [], .slice none 0 (some 0) 0, .slice none 0 (some 0) 0])] (qa [qm 5 0, qm 6 1, qo 7 (.build [qu 0, .str [], .slice none 0 (some 0) 0, .slice none 0 (some 0) 0] [(0, 1, .c (qu 1)), (1, 1, .t 5), (2, 1, .t 6)]), qs 4 4 7] .ret)⟩
theorem rf_law41_atom : resF Go.Proofs.Tryz.prog 14 = some i_law41_atom := by kernel_rfl
noncomputable def i_law41_apply : AFunc := ⟨8, [(4, some (some 3))], qa [qo 4 (.alloc [.bool false, .str [], .slice none 0 (some 0) 0])] (qa [qm 5 0, qm 6 1, qo 7 (.build [.bool false, .str [], .slice none 0 (some 0) 0] [(1, 1, .t 5), (2, 1, .t 6)]), qs 3 4 7] .ret)⟩
theorem rf_law41_apply : resF Go.Proofs.Tryz.prog 18 = some i_law41_apply := by kernel_rfl
noncomputable def i_describe_ModelS1 : AFunc := ⟨8, [], .its [ql 3 1, qm 4 0, qc 5 31 [.t 4], .again 3 none (.load none (.t 1)), qo 6 (.buildSlice 1 1 [.str []] [(0, 1, .t 5)]), qo 7 (.append 1 16 (.t 3) (.t 6)), qs 1 1 7]⟩
theorem rf_describe_ModelS1 : resF Go.Proofs.Tryz.prog 48 = some i_describe_ModelS1 := by kernel_rfl
noncomputable def i_describe_beginS2 : AFunc := ⟨3, [(1, none)], qa [qk 1 (.bool false)] (qa [ql 2 0, qm 1 2] .ret)⟩
theorem rf_describe_beginS2 : resF Go.Proofs.Tryz.prog 71 = some i_describe_beginS2 := by kernel_rfl
noncomputable def i_describe_beginS6 : AFunc := ⟨3, [(1, none)], qa [qk 1 (qi 0)] (qa [ql 2 0, qm 1 2] .ret)⟩
theorem rf_describe_beginS6 : resF Go.Proofs.Tryz.prog 79 = some i_describe_beginS6 := by kernel_rfl
end Go.Am
namespace Go.Am
open Go.RowKit Go.Proofs Do
set_option maxRecDepth 100000
theorem hmx : Tryz.prog.follows .mixedOrders = true := by kernel_rfl
abbrev RR := RsOf Tryz.prog
theorem highs_take {l : List T} {k : Nat} {t : T} (h : l[k]? = some t) : T.highs (l.take (k + 1)) = max (T.highs (l.take k)) t.high := by
  induction l generalizing k with
  | nil => simp at h
  | cons a r ih =>
    cases k with
    | zero => simp only [List.getElem?_cons_zero, Option.some.injEq] at h; subst h; simp [T.highs]
    | succ k => simp only [List.getElem?_cons_succ] at h; simp only [List.take_succ_cons, T.highs, ih h]; omega
theorem cnts_mem {l : List T} {t : T} (h : t ∈ l) : t.cnt ≤ T.cnts l := by
  induction l with
  | nil => cases h
  | cons a r ih =>
    simp only [T.cnts]
    rcases List.mem_cons.1 h with e | e
    · subst e; omega
    · have := ih e; omega
theorem cnts_len (l : List T) : l.length ≤ T.cnts l := by
  induction l with
  | nil => simp
  | cons a r ih => cases a; simp only [T.cnts, T.cnt, List.length_cons]; omega
mutual
theorem high_cnt : ∀ t : T, t.high ≤ t.cnt
  | .mk _ _ ar => by have := highs_cnts ar; simp only [T.high, T.cnt]; omega
theorem highs_cnts : ∀ l : List T, T.highs l ≤ T.cnts l
  | [] => by simp [T.highs]
  | t :: r => by have := high_cnt t; have := highs_cnts r; simp only [T.highs, T.cnts]; omega
end
theorem high_ok : ∀ (m : Nat) (l : List T), T.cnts l ≤ m → m ≤ 1152921504606846976 → ∀ (σ : AState) (o : Option (Nat × Nat)) (n : Nat) (c : Option Nat) (z : Nat), Ts σ.get o n z l →
    RunF RR Tryz.prog n_syntax_high [.slice o n c z] σ (fun u σ' => u = .int .i64 (T.highs l) ∧ σ' = σ) := by
  intro m
  induction m using Nat.strongRecOn with
  | _ m ih =>
  intro l hl hm σ o n c z hT
  refine RunV.wf fun hW => RunV.forget rfl ?_
  refine runF_intro hmx rf_syntax_high ?_
  have hn : n = l.length := hT.1
  have hlen := cnts_len l
  simp -implicitDefEqProofs (maxDischargeDepth := 15) only [Yr, Ys, Yt, Wj, Wk, Wm, Wo, opA, Wv, Ww, Wx, Wy, Wz, Za, Zb, List.replicate, Zc, Zd, Ze, Vb, Zf, Zg, Nat.reduceSub, Zk, i_syntax_high, c11_0, c11_1, c11_2, c11_3, c11_4, c11_5, c11_6, c11_7, c11_8, c11_9, c11_10, c11_11, c11_12]
  refine wp_loop (fun ts σ' m => ∃ k : Nat, Grow σ σ' ∧ k + m = n ∧ ∃ j1 j4 j5 j9 j10 j11 j12 j13 j14 j15 j16 j17 j18 j19 : AV, ts = [.slice o n c z, j1, .int .i64 0, .int .i64 (T.highs (l.take k)), j4, j5, .slice o n c z, .int .i64 n, .int .i64 k, j9, j10, j11, j12, j13, j14, j15, j16, j17, j18, j19]) n ⟨0, Grow.refl hW, by omega, _, _, _, _, _, _, _, _, _, _, _, _, _, _, rfl⟩ ?_
  rintro m' ts σ' ⟨k, hG, hk, j1, j4, j5, j9, j10, j11, j12, j13, j14, j15, j16, j17, j18, j19, rfl⟩
  by_cases hlt : k < n
  · obtain ⟨t, ht, htm⟩ := get_lt (l := l) (k := k) (by omega)
    obtain ⟨rfl, i, off, cs, w, rfl, hg, hlen3, xs, hxs, hd⟩ := (hT.sub hG.sub).elem ht
    obtain ⟨v, nm, ar⟩ := t
    obtain ⟨oa, ca, za, rfl, hA⟩ := T.cells hd
    have hi := hG.wf.lt hg
    have hd : decide ((k : Int) < n) = true := decide_eq_true (by omega)
    have e1 : (0 : Int) ≤ (k : Int) ∧ (k : Int) < (n : Int) := by omega
    have hc := cnts_mem htm
    simp only [T.cnt] at hc
    have h1 := highs_cnts ar
    have h2 := highs_cnts l
    simp -implicitDefEqProofs (maxDischargeDepth := 15) only [↓reduceIte, Yr, Ys, Yt, Yz, Wb, Wg, Wh, Wj, Wk, Wl, Wm, Wo, Wp, Wq, Ws, Wt, opA, Wv, Ww, Wx, Wy, Wz, Va, Za, Zb, Zd, Ze, Vb, Vc, Vd, Ve, AV.cells, Vg, Vn, partA, Zf, Zg, Zh, Zi, Nat.reduceAdd, Zj, Zk, Zn, Zp, Zq, Zr, Zs, binA, putL, allOne, Zu, Zv, AV.one, Zy, and_self, EndOk, resultA, oneOf, Zz, Yf, eq_self, Yp, e1, hg, hlen3, hxs]
    refine RunV.to (ih (T.cnts ar) (by omega) ar (by omega) (by omega) _ _ _ _ _ (hA.sub (sub_push hG.wf _))) ?_
    simp -implicitDefEqProofs (maxDischargeDepth := 15) only [↓reduceIte, Yr, Ys, Yt, Wj, Wo, Wr, Wu, opA, Wv, Ww, Wx, Wy, Wz, Za, Zb, Vb, Zh, Zi, binA, eq_self, maxA]
    rw [wrap_i64 (n := (k : Int) + 1) (by omega), wrap_i64 (n := 1 + (T.highs ar : Int)) (by omega)]
    have hmax : (if 1 + (T.highs ar : Int) > (T.highs (l.take k) : Int) then 1 + (T.highs ar : Int) else (T.highs (l.take k) : Int)) = ((T.highs (l.take (k + 1)) : Nat) : Int) := by
      rw [highs_take ht]
      simp only [T.high]
      split <;> omega
    rw [hmax]
    exact ⟨m' - 1, by omega, k + 1, hG.push _, by omega, _, _, _, _, _, _, _, _, _, _, _, _, _, _, rfl⟩
  · have hd : decide ((k : Int) < n) = false := decide_eq_false (by omega)
    simp -implicitDefEqProofs (maxDischargeDepth := 15) only [↓reduceIte, Yr, Ys, Yt, Wa, Wh, Wi, Wj, Wk, Wl, Wo, Wp, Wq, Ws, Wt, opA, Wv, Wx, Wy, Wz, Za, Zb, Vb, binA, EndOk, resultA, oneOf, Zz, eq_self, hd]
    have : l.take k = l := List.take_of_length_le (by omega)
    rw [this]
    exact ⟨rfl, hG.sub⟩
end Go.Am
namespace Go.Am
open Go.RowKit Go.Proofs Do
set_option maxRecDepth 100000
theorem depths_take {l : List F} {k : Nat} {t : F} (h : l[k]? = some t) : F.depths (l.take (k + 1)) = max (F.depths (l.take k)) t.depth := by
  induction l generalizing k with
  | nil => simp at h
  | cons a r ih =>
    cases k with
    | zero => simp only [List.getElem?_cons_zero, Option.some.injEq] at h; subst h; simp [F.depths]
    | succ k => simp only [List.getElem?_cons_succ] at h; simp only [List.take_succ_cons, F.depths, ih h]; omega
theorem nodes_mem {l : List F} {t : F} (h : t ∈ l) : t.nodes ≤ F.nodess l := by
  induction l with
  | nil => cases h
  | cons a r ih =>
    simp only [F.nodess]
    rcases List.mem_cons.1 h with e | e
    · subst e; omega
    · have := ih e; omega
theorem nodess_len (l : List F) : l.length ≤ F.nodess l := by
  induction l with
  | nil => simp
  | cons a r ih => cases a; simp only [F.nodess, F.nodes, List.length_cons]; omega
mutual
theorem depth_nodes : ∀ t : F, t.depth ≤ t.nodes
  | .mk _ _ ar l => by have := highs_cnts ar; have := depths_nodess l; simp only [F.depth, F.nodes]; omega
theorem depths_nodess : ∀ l : List F, F.depths l ≤ F.nodess l
  | [] => by simp [F.depths]
  | t :: r => by have := depth_nodes t; have := depths_nodess r; simp only [F.depths, F.nodess]; omega
end
theorem depth_ok : ∀ (m : Nat) (f : F), f.nodes ≤ m → m ≤ 1152921504606846976 → ∀ (σ : AState) (xs : List AV), DAtL σ.get f.dv xs →
    RunF RR Tryz.prog n_syntax_Depth [.agg xs] σ (fun u σ' => u = .int .i64 f.depth ∧ σ' = σ) := by
  intro m
  induction m using Nat.strongRecOn with
  | _ m ih =>
  intro f hf hm σ xs hD
  refine RunV.wf fun hW => RunV.forget rfl ?_
  refine runF_intro hmx rf_syntax_Depth ?_
  obtain ⟨op, nm, ar, l⟩ := f
  obtain ⟨o1, c1, z1, o2, c2, z2, rfl, hA, hL⟩ := F.cells hD
  simp only [F.nodes] at hf
  have hlen := nodess_len l
  have h1 := highs_cnts ar
  have h2 := depths_nodess l
  simp -implicitDefEqProofs (maxDischargeDepth := 15) only [Yr, Ys, Yt, Wb, Wj, Wk, Wo, opA, Wv, Ww, Wx, Wy, Wz, Za, Zb, List.replicate, Zc, Zd, Ze, Vb, Vc, Vd, AV.cells, Vg, partA, Zf, Zg, Zh, Zi, Nat.reduceSub, Zk, Zq, Zr, i_syntax_Depth, c89_0, c89_1, c89_2, c89_3, c89_4, c89_5, c89_6, c89_7, c89_8, c89_9, c89_10, c89_11, c89_12, c89_13]
  refine RunV.to (high_ok (T.cnts ar) ar (by omega) (by omega) _ _ _ _ _ (hA.sub (sub_push hW _))) ?_
  simp -implicitDefEqProofs (maxDischargeDepth := 15) only [Yr, Ys, Yt, Wj, Wk, Wm, Wo, Wu, opA, Wv, Ww, Wx, Wy, Wz, Za, Zb, Vb, Vg, partA, Zk, Zq, Zr]
  have hG0 : Grow σ (σ.push (.cells [.int .u8 op, .str nm, .slice o1 ar.length c1 z1, .slice o2 l.length c2 z2] true)) := (Grow.refl hW).push _
  have h0 : max (T.highs ar) (F.depths (l.take 0)) = T.highs ar := by simp [F.depths]
  refine wp_loop (fun ts σ' m => ∃ k a : Nat, a = max (T.highs ar) (F.depths (l.take k)) ∧ Grow σ σ' ∧ k + m = l.length ∧ ∃ j4 j5 j6 j7 j8 j9 j13 j14 j15 j16 j17 j18 j19 j20 j21 j22 : AV, ts = [.agg [.int .u8 op, .str nm, .slice o1 ar.length c1 z1, .slice o2 l.length c2 z2], .ptr (some (σ.next, 0)), .int .i64 0, .int .i64 a, j4, j5, j6, j7, j8, j9, .slice o2 l.length c2 z2, .int .i64 l.length, .int .i64 k, j13, j14, j15, j16, j17, j18, j19, j20, j21, j22]) l.length ⟨0, T.highs ar, h0.symm, hG0, by omega, _, _, _, _, _, _, _, _, _, _, _, _, _, _, _, _, rfl⟩ ?_
  rintro m' ts σ' ⟨k, a, ha, hG, hk, j4, j5, j6, j7, j8, j9, j13, j14, j15, j16, j17, j18, j19, j20, j21, j22, rfl⟩
  by_cases hlt : k < l.length
  · obtain ⟨t, ht, htm⟩ := get_lt (l := l) (k := k) (by omega)
    obtain ⟨rfl, i, off, cs, w, rfl, hg, hlen3, xs, hxs, hd2⟩ := (hL.sub hG.sub).elem ht
    have hnt := nodes_mem htm
    obtain ⟨op', nm', ar', l'⟩ := t
    have hd3 := hd2
    obtain ⟨o1', c1', z1', o2', c2', z2', rfl, _, _⟩ := F.cells hd2
    have hi := hG.wf.lt hg
    have hd : decide ((k : Int) < l.length) = true := decide_eq_true (by omega)
    have e1 : (0 : Int) ≤ (k : Int) ∧ (k : Int) < (l.length : Int) := by omega
    simp -implicitDefEqProofs (maxDischargeDepth := 15) only [↓reduceIte, Yr, Ys, Yt, Yz, Wb, Wg, Wj, Wk, Wl, Wm, Wo, Wp, Wq, Ws, Wt, opA, Wv, Ww, Wx, Wy, Wz, Va, Za, Zb, Zd, Ze, Vb, Vc, Vd, Ve, AV.cells, Vg, Vn, partA, Zf, Zg, Zh, Zi, Nat.reduceAdd, Zj, Zk, Zm, Zn, Zo, Zp, Zs, Zt, binA, putL, allOne, Zu, Zv, AV.one, Zy, and_self, EndOk, resultA, oneOf, Zz, Yf, eq_self, Yp, e1, hg, hlen3, hxs]
    refine RunV.to (ih _ (by omega) _ (Nat.le_refl _) (by omega) _ _ (DAtL.sub (sub_push hG.wf _) _ _ hd3)) ?_
    simp -implicitDefEqProofs (maxDischargeDepth := 15) only [↓reduceIte, Yr, Ys, Yt, Wj, Wo, Wr, Wu, opA, Wv, Ww, Wx, Wy, Wz, Za, Zb, Vb, Zh, Zi, binA, eq_self, maxA]
    rw [wrap_i64 (n := (k : Int) + 1) (by omega)]
    have hmax : (if ((F.mk op' nm' ar' l').depth : Int) > (a : Int) then ((F.mk op' nm' ar' l').depth : Int) else (a : Int)) = ((max (T.highs ar) (F.depths (l.take (k + 1))) : Nat) : Int) := by
      rw [depths_take ht, ha]
      split <;> omega
    rw [hmax]
    exact ⟨m' - 1, by omega, k + 1, _, rfl, hG.push _, by omega, _, _, _, _, _, _, _, _, _, _, _, _, _, _, _, _, rfl⟩
  · have hd : decide ((k : Int) < l.length) = false := decide_eq_false (by omega)
    simp -implicitDefEqProofs (maxDischargeDepth := 15) only [↓reduceIte, Yr, Ys, Yt, Wa, Wh, Wi, Wj, Wk, Wl, Wo, Wp, Wq, Ws, Wt, opA, Wv, Ww, Wx, Wy, Wz, Za, Zb, Vb, binA, EndOk, resultA, oneOf, Zz, eq_self, hd]
    have : l.take k = l := List.take_of_length_le (by omega)
    rw [this] at ha
    rw [wrap_i64 (by omega)]
    exact ⟨by simp [F.depth, ha], hG.sub⟩
structure Iter {S : Type} (St : S → AState → Prop) (Own : Nat → Prop) : Prop where
  own : ∀ s σ i, St s σ → Own i → ∃ b, σ.get i = some b
  frame : ∀ s σ σ', St s σ → (∀ i, Own i → σ'.get i = σ.get i) → St s σ'
structure Kept (Own : Nat → Prop) (σ σ' : AState) : Prop where
  le : σ.next ≤ σ'.next
  keep : ∀ i b, ¬ Own i → σ.get i = some b → σ'.get i = some b
  wf : σ'.Wf
theorem Kept.refl {Own : Nat → Prop} {σ : AState} (h : σ.Wf) : Kept Own σ σ := ⟨Nat.le_refl _, fun _ _ _ e => e, h⟩
theorem Kept.trans {Own : Nat → Prop} {a b c : AState} (h : Kept Own a b) (k : Kept Own b c) : Kept Own a c := ⟨Nat.le_trans h.le k.le, fun i x n e => k.keep i x n (h.keep i x n e), k.wf⟩
theorem Kept.push {Own : Nat → Prop} {a b : AState} (h : Kept Own a b) (x : ABlk) : Kept Own a (b.push x) := ⟨Nat.le_succ_of_le h.le, fun i y n e => (Ext.push h.wf x).2 i y (h.keep i y n e), h.wf.push x⟩
theorem Iter.push {S : Type} {St : S → AState → Prop} {Own : Nat → Prop} (h : Iter St Own) {s : S} {σ : AState} (hW : σ.Wf) (hs : St s σ) (b : ABlk) : St s (σ.push b) :=
  h.frame s σ _ hs fun i hi => by
    obtain ⟨x, hx⟩ := h.own s σ i hs hi
    exact Vh (hW.lt hx)
def Free (Own : Nat → Prop) (g : Mem) : Prop := ∀ i b, g i = some b → ¬ Own i
theorem Kept.sub {Own : Nat → Prop} {σ σ' : AState} {g : Mem} (h : Kept Own σ σ') (hf : Free Own g) (hs : Sub g σ.get) : Sub g σ'.get := fun i b e => h.keep i b (hf i b e) (hs i b e)
end Go.Am
namespace Go.Am
open Go.RowKit Go.Proofs Do
set_option maxRecDepth 100000
section
variable {S : Type}
mutual
def Do.F.fold (step : S → F → S) (s : S) : F → S
  | .mk op n ar l => F.folds step (step s (.mk op n ar l)) l
def Do.F.folds (step : S → F → S) (s : S) : List F → S
  | [] => s
  | f :: r => F.folds step (F.fold step s f) r
end
mutual
def Do.T.fold (step : S → T → S) (s : S) : T → S
  | .mk v n ar => T.folds step (step s (.mk v n ar)) ar
def Do.T.folds (step : S → T → S) (s : S) : List T → S
  | [] => s
  | f :: r => T.folds step (T.fold step s f) r
end
theorem ffolds_take (step : S → F → S) : ∀ {l : List F} {s : S} {k : Nat} {t : F}, l[k]? = some t → F.folds step s (l.take (k + 1)) = F.fold step (F.folds step s (l.take k)) t
  | [], s, k, t, h => by simp at h
  | a :: r, s, 0, t, h => by simp only [List.getElem?_cons_zero, Option.some.injEq] at h; subst h; simp [F.folds]
  | a :: r, s, k + 1, t, h => by
    simp only [List.getElem?_cons_succ] at h
    simp only [List.take_succ_cons, F.folds]
    exact ffolds_take step h
theorem tfolds_take (step : S → T → S) : ∀ {l : List T} {s : S} {k : Nat} {t : T}, l[k]? = some t → T.folds step s (l.take (k + 1)) = T.fold step (T.folds step s (l.take k)) t
  | [], s, k, t, h => by simp at h
  | a :: r, s, 0, t, h => by simp only [List.getElem?_cons_zero, Option.some.injEq] at h; subst h; simp [T.folds]
  | a :: r, s, k + 1, t, h => by
    simp only [List.getElem?_cons_succ] at h
    simp only [List.take_succ_cons, T.folds]
    exact tfolds_take step h
end
theorem Iter.lt {S : Type} {St : S → AState → Prop} {Own : Nat → Prop} (h : Iter St Own) {s : S} {σ : AState} (hW : σ.Wf) (hs : St s σ) {i : Nat} (hi : Own i) : i < σ.next := by
  obtain ⟨b, hb⟩ := h.own s σ i hs hi
  exact hW.lt hb
def YF' {S : Type} (St : S → AState → Prop) (step : S → F → S) (Own : Nat → Prop) (y : AV) : Prop :=
  ∀ s σ g xs f, F.nodes f ≤ 1152921504606846976 → St s σ → σ.Wf → Sub g σ.get → Free Own g → DAtL g f.dv xs → RunV RR Tryz.prog y [.agg xs] σ (fun u σ' => u = .bool true ∧ St (step s f) σ' ∧ Kept Own σ σ')
def YT' {S : Type} (St : S → AState → Prop) (step : S → T → S) (Own : Nat → Prop) (y : AV) : Prop :=
  ∀ s σ g xs t, T.cnt t ≤ 1152921504606846976 → St s σ → σ.Wf → Sub g σ.get → Free Own g → DAtL g t.dv xs → RunV RR Tryz.prog y [.agg xs] σ (fun u σ' => u = .bool true ∧ St (step s t) σ' ∧ Kept Own σ σ')
theorem every_ok {S : Type} {St : S → AState → Prop} {step : S → F → S} {Own : Nat → Prop} {y : Nat} (hI : Iter St Own) (hy : YF' St step Own (.yieldf y)) : ∀ (m : Nat) (f : F), f.nodes ≤ m → m ≤ 1152921504606846976 →
    ∀ (s : S) (σ : AState) (g : Mem) (xs : List AV), St s σ → Sub g σ.get → Free Own g → DAtL g f.dv xs →
    RunF RR Tryz.prog n_syntax_every [.agg xs, .yieldf y] σ (fun u σ' => u = .bool true ∧ St (F.fold step s f) σ' ∧ Kept Own σ σ') := by
  intro m
  induction m using Nat.strongRecOn with
  | _ m ih =>
  intro f hf hm s σ g xs hS hg0 hfree hD
  refine RunV.wf fun hW => ?_
  refine runF_intro hmx rf_syntax_every ?_
  have hOl : ∀ i, Own i → i < σ.next := fun i hi => hI.lt hW hS hi
  have hOn : ¬ Own σ.next := fun h => by have := hOl _ h; omega
  obtain ⟨op, nm, ar, l⟩ := f
  have hD2 := hD
  obtain ⟨o1, c1, z1, o2, c2, z2, rfl, hA, hL⟩ := F.cells hD
  have hf' := hf
  simp only [F.nodes] at hf
  have hlen := nodess_len l
  simp -implicitDefEqProofs (maxDischargeDepth := 15) only [↓reduceIte, Yr, Ys, Yt, Wb, Wj, Wk, Wo, opA, Wv, Ww, Wx, Wy, Wz, Za, Zb, List.replicate, Zc, Zd, Ze, Vb, Vc, Vd, AV.cells, Vg, partA, Zf, Zg, Zh, Zi, Nat.reduceAdd, Nat.reduceSub, Zj, Zk, Zm, Zo, Zt, i_syntax_every, c35_0, c35_1, c35_2, c35_3, c35_4, c35_5, c35_6, c35_7, c35_8, c35_9, c35_10, c35_11, c35_12, c35_13, c35_14, c35_15, c35_16, c35_17]
  refine (hy s _ g _ (.mk op nm ar l) (by omega) (hI.push hW hS _) (hW.push _) (hg0.trans (sub_push hW _)) hfree hD2).mono ?_
  rintro u σ1 ⟨rfl, hS1, hK1⟩
  have hbox := hK1.keep σ.next _ hOn Vg
  have hbl := hK1.wf.lt hbox
  simp -implicitDefEqProofs (maxDischargeDepth := 15) only [Yr, Ys, Yt, Wa, Wg, Wj, Wk, Wl, Wm, Wo, Wu, opA, Wv, Ww, Wx, Wy, Wz, Za, Zb, Vb, partA, Zk, Zq, Zr, Yb, hbox]
  refine wp_loop (fun ts σ' m => ∃ k : Nat, St (F.folds step (step s (.mk op nm ar l)) (l.take k)) σ' ∧ Kept Own (σ.push (.cells [.int .u8 op, .str nm, .slice o1 ar.length c1 z1, .slice o2 l.length c2 z2] true)) σ' ∧ k + m = l.length ∧ ∃ j0 j3 j5 j6 j7 j8 j9 j10 j11 j15 j16 j17 j18 j19 j20 j21 j22 : AV, ts = [j0, .yieldf y, .ptr (some (σ.next, 0)), j3, .bool false, j5, j6, j7, j8, j9, j10, j11, .slice o2 l.length c2 z2, .int .i64 l.length, .int .i64 k, j15, j16, j17, j18, j19, j20, j21, j22]) l.length ⟨0, hS1, hK1, by omega, _, _, _, _, _, _, _, _, _, _, _, _, _, _, _, _, _, rfl⟩ ?_
  rintro m' ts σ' ⟨k, hSk, hK, hk, j0, j3, j5, j6, j7, j8, j9, j10, j11, j15, j16, j17, j18, j19, j20, j21, j22, rfl⟩
  have hgk : Sub g σ'.get := hK.sub hfree (hg0.trans (sub_push hW _))
  by_cases hlt : k < l.length
  · obtain ⟨t, ht, htm⟩ := get_lt (l := l) (k := k) (by omega)
    obtain ⟨rfl, i, off, cs, w, rfl, hg, hlen3, xs, hxs, hd2⟩ := hL.elem ht
    have hgi := hgk _ _ hg
    have hnt := nodes_mem htm
    obtain ⟨op', nm', ar', l'⟩ := t
    have hd3 := hd2
    obtain ⟨o1', c1', z1', o2', c2', z2', rfl, _, _⟩ := F.cells hd2
    have hi := hK.wf.lt hgi
    have hd : decide ((k : Int) < l.length) = true := decide_eq_true (by omega)
    have e1 : (0 : Int) ≤ (k : Int) ∧ (k : Int) < (l.length : Int) := by omega
    simp -implicitDefEqProofs (maxDischargeDepth := 15) only [↓reduceIte, Yr, Ys, Yt, Yz, Wb, Wg, Wh, Wj, Wk, Wl, Wm, Wo, Wp, Wq, Ws, Wt, opA, Wv, Ww, Wx, Wy, Wz, Va, Za, Zb, Zd, Ze, Vb, Vc, Vd, Ve, AV.cells, Vg, Vn, partA, Zf, Zg, Zh, Zi, Nat.reduceAdd, Zj, Zk, Zm, Zn, Zo, Zp, Zs, Zt, binA, putL, allOne, Zu, Zv, AV.one, Zy, and_self, EndOk, resultA, oneOf, Zz, Yf, eq_self, Yp, e1, hgi, hlen3, hxs]
    refine (ih _ (by omega) _ (Nat.le_refl _) (by omega) _ _ g _ (hI.push hK.wf hSk _) (hgk.trans (sub_push hK.wf _)) hfree hd3).mono ?_
    rintro u σ2 ⟨rfl, hS2, hK2⟩
    simp -implicitDefEqProofs (maxDischargeDepth := 15) only [↓reduceIte, Yr, Ys, Yt, Wa, Wg, Wj, Wl, Wo, Wr, Wu, opA, Wv, Ww, Wx, Wy, Wz, Za, Zb, Vb, binA, Yb, eq_self]
    rw [wrap_i64 (n := (k : Int) + 1) (by omega)]
    refine ⟨m' - 1, by omega, k + 1, ?_, (hK.push _).trans hK2, by omega, _, _, _, _, _, _, _, _, _, _, _, _, _, _, _, _, _, rfl⟩
    rw [ffolds_take step ht]
    exact hS2
  · have hd : decide ((k : Int) < l.length) = false := decide_eq_false (by omega)
    simp -implicitDefEqProofs (maxDischargeDepth := 15) only [↓reduceIte, Yr, Ys, Yt, Wa, Wh, Wi, Wj, Wk, Wl, Wo, Wp, Wq, Ws, Wt, opA, Wv, Ww, Wx, Wy, Wz, Za, Zb, Vb, binA, true_and, EndOk, resultA, oneOf, Zz, eq_self, hd]
    have : l.take k = l := List.take_of_length_le (by omega)
    rw [this] at hSk
    exact ⟨hSk, ((Kept.refl hW).push _).trans hK⟩
theorem all_ok (σ : AState) (xs : List AV) : RunF RR Tryz.prog n_syntax_all [.agg xs] σ (fun u σ' => u = .func (.func n_syntax_allS1) [] [.ptr (some (σ.next, 0))] ∧ σ' = σ.push (.cells xs true)) := by
  refine runF_intro hmx rf_syntax_all ?_
  simp -implicitDefEqProofs (maxDischargeDepth := 15) only [Yr, Ys, Yt, Wh, Wj, Wk, Wo, opA, Wv, Ww, Wx, Wy, Wz, Za, Zb, List.replicate, Zc, Zd, Ze, Vb, Vc, Vd, AV.cells, Zf, Zg, Zh, Zi, Nat.reduceSub, Zk, and_self, EndOk, resultA, oneOf, Zz, eq_self, i_syntax_all, c55_0, c55_1]
theorem terms_ok (σ : AState) (o : Option (Nat × Nat)) (n : Nat) (c : Option Nat) (z : Nat) : RunF RR Tryz.prog n_syntax_terms [.slice o n c z] σ (fun u σ' => u = .func (.func n_syntax_termsS1) [] [.ptr (some (σ.next, 0))] ∧ σ' = σ.push (.cells [.slice o n c z] true)) := by
  refine runF_intro hmx rf_syntax_terms ?_
  simp -implicitDefEqProofs (maxDischargeDepth := 15) only [Yr, Ys, Yt, Wh, Wj, Wk, Wo, opA, Wv, Ww, Wx, Wy, Wz, Za, Zb, List.replicate, Zc, Zd, Ze, Vb, Vc, Vd, AV.cells, Zf, Zg, Zh, Zi, Nat.reduceSub, Zk, and_self, EndOk, resultA, oneOf, Zz, eq_self, i_syntax_terms, c54_0, c54_1]
theorem allS1_ok {S : Type} {St : S → AState → Prop} {step : S → F → S} {Own : Nat → Prop} {y : Nat} (hI : Iter St Own) (hy : YF' St step Own (.yieldf y)) (f : F) (hf : f.nodes ≤ 1152921504606846976)
    (s : S) (σ : AState) (g : Mem) (xs : List AV) (b : Nat) (hS : St s σ) (hg : Sub g σ.get) (hfree : Free Own g) (hD : DAtL g f.dv xs) (hb : σ.get b = some (.cells xs true)) :
    RunV RR Tryz.prog (.func (.func n_syntax_allS1) [] [.ptr (some (b, 0))]) [.yieldf y] σ (fun u σ' => St (F.fold step s f) σ' ∧ Kept Own σ σ') := by
  refine runF_intro hmx rf_syntax_allS1 ?_
  have hl : 4 ≤ xs.length := by rw [hD.length, F.dv_len]; omega
  have ht : xs.take 4 = xs := List.take_of_length_le (by rw [hD.length, F.dv_len]; omega)
  simp -implicitDefEqProofs (maxDischargeDepth := 15) only [↓reduceIte, Ys, Yt, Wb, Wj, opA, Wv, Ww, Wx, Wy, Wz, Za, Zb, List.replicate, Zc, Zd, Vb, partA, Zf, Zg, Zh, Zi, Nat.reduceAdd, Nat.reduceSub, Zk, Zm, i_syntax_allS1, c56_0, hb, hl, ht]
  refine (every_ok hI hy _ f (Nat.le_refl _) hf s σ g xs hS hg hfree hD).mono ?_
  rintro u σ' ⟨rfl, h1, h2⟩
  simp -implicitDefEqProofs (maxDischargeDepth := 15) only [Yr, Wu, Wz, Za, Zb, EndOk, resultA]
  exact ⟨h1, h2⟩
end Go.Am
namespace Go.Am
open Go.RowKit Go.Proofs Do
set_option maxRecDepth 100000
def SubC (g h : Mem) : Prop := ∀ i l w, g i = some (.cells l w) → h i = some (.cells l w)
theorem Sub.c {g h : Mem} (s : Sub g h) : SubC g h := fun i l w e => s i _ e
def TySt {S : Type} (St : S → AState → Prop) (lp b2 y : Nat) (ts0 : List AV) (s : S) (σ : AState) : Prop :=
  St s σ ∧ σ.get lp = some (.loop .ready none ts0 [19] c5_2 c5_6) ∧ σ.get b2 = some (.cells [.yieldf y] true)
theorem TySt.mk {S : Type} {St : S → AState → Prop} {lp b2 y : Nat} {ts0 : List AV} {s : S} {σ : AState} (h1 : St s σ) (h2 : σ.get lp = some (.loop .ready none ts0 [19] c5_2 c5_6)) (h3 : σ.get b2 = some (.cells [.yieldf y] true)) : TySt St lp b2 y ts0 s σ := ⟨h1, h2, h3⟩
def TyOwn (Own : Nat → Prop) (lp b2 : Nat) (i : Nat) : Prop := Own i ∨ i = lp ∨ i = b2
theorem tyIter {S : Type} {St : S → AState → Prop} {Own : Nat → Prop} {lp b2 y : Nat} {ts0 : List AV} (hI : Iter St Own) : Iter (TySt St lp b2 y ts0) (TyOwn Own lp b2) where
  own s σ i h k := by
    rcases k with k | rfl | rfl
    · exact hI.own s σ i h.1 k
    · exact ⟨_, h.2.1⟩
    · exact ⟨_, h.2.2⟩
  frame s σ σ' h k := ⟨hI.frame s σ σ' h.1 fun i hi => k i (.inl hi), by rw [k lp (.inr (.inl rfl))]; exact h.2.1, by rw [k b2 (.inr (.inr rfl))]; exact h.2.2⟩
theorem termsY_ok {S : Type} {St : S → AState → Prop} {step : S → T → S} {Own : Nat → Prop} {y lp b2 : Nat} (hI : Iter St Own) (hy : YT' St step Own (.yieldf y)) (hlp : ¬ Own lp) (hb2o : ¬ Own b2) (hne : b2 ≠ lp) {j0 j1 j3 j4 j5 j6 j7 j8 j9 j10 j11 j12 j13 j14 j15 j16 j17 j18 j19 j20 j21 j22 j23 j24 : AV} :
    YT' (TySt St lp b2 y [j0, j1, .ptr (some (b2, 0)), j3, j4, j5, j6, j7, j8, j9, j10, j11, j12, j13, j14, j15, j16, j17, j18, j19, j20, j21, j22, j23, j24]) step (TyOwn Own lp b2) (.yieldf lp) := by
  rintro s σ g xs t ht ⟨hS, hl, hb2⟩ hW hg hfree hD
  refine runY_intro hmx hl rfl ?_
  have hll := hW.lt hl
  have hbl := hW.lt hb2
  obtain ⟨v, nm, ar⟩ := t
  have hD2 := hD
  obtain ⟨o1, c1, z1, rfl, hA⟩ := T.cells hD
  simp -implicitDefEqProofs (maxDischargeDepth := 15) only [↓reduceIte, Yr, Ys, Yt, Wj, opA, Wv, Wx, Wy, Wz, Va, Za, Zb, Zd, Ze, Vb, Vc, Vd, Ve, AV.cells, Vg, Vh, Vn, Zf, Zg, Nat.reduceAdd, Zj, Zk, Zn, Zp, Zs, putL, allOne, Zu, Zv, AV.one, Zy, and_self, true_and, eq_self, setPs, c5_2, hll]
  refine ⟨_, _, _, _, _, hl, ?_⟩
  generalize hσ3 : (σ.push (.cells [.bool v, .str nm, .slice o1 ar.length c1 z1] true)).set lp (.loop .busy none [j0, j1, .ptr (some (b2, 0)), j3, j4, j5, j6, j7, j8, j9, j10, j11, j12, j13, j14, j15, j16, j17, j18, j19, j20, j21, j22, j23, j24] [19] c5_2 c5_6) = σ3
  have hkeep : ∀ i b, i ≠ lp → σ.get i = some b → σ3.get i = some b := fun i b hi e => by
    rw [← hσ3, Vl hi, Vh (hW.lt e)]; exact e
  have hW3 : σ3.Wf := by rw [← hσ3]; exact (hW.push _).set (Vj hll) _
  have hlp3 : σ3.get lp = some (.loop .busy none [j0, j1, .ptr (some (b2, 0)), j3, j4, j5, j6, j7, j8, j9, j10, j11, j12, j13, j14, j15, j16, j17, j18, j19, j20, j21, j22, j23, j24] [19] c5_2 c5_6) := by rw [← hσ3, Vk]
  have hnx : σ3.next = σ.next + 1 := by rw [← hσ3]; rfl
  have h53 : σ3.get σ.next = some (.cells [.bool v, .str nm, .slice o1 ar.length c1 z1] true) := by rw [← hσ3, Vl (by omega), Vg]
  have hS3 : St s σ3 := hI.frame s σ _ hS fun i hi => by
    obtain ⟨b, hb⟩ := hI.own s σ i hS hi
    rw [hb]; exact hkeep i b (fun q => hlp (q ▸ hi)) hb
  have hg3 : Sub g σ3.get := fun i b e => hkeep i b (fun q => hfree i b e (.inr (.inl q))) (hg i b e)
  have hb23 := hkeep b2 _ hne hb2
  simp -implicitDefEqProofs (maxDischargeDepth := 15) only [↓reduceIte, Ys, Yt, Wb, Wj, Wk, Wm, opA, Wv, Wx, Wy, Wz, Za, Zb, Vb, partA, Zf, Zg, Zh, Zi, Nat.reduceAdd, Zj, Zk, Zm, Zo, Zq, Zt, c5_3, c5_4, c5_5, c5_6, hb23, h53]
  refine (hy s σ3 g _ _ ht hS3 hW3 hg3 (fun i b e q => hfree i b e (.inl q)) hD2).mono ?_
  rintro u σ4 ⟨rfl, hS4, hK4⟩
  have hlp4 := hK4.keep lp _ hlp hlp3
  simp -implicitDefEqProofs (maxDischargeDepth := 15) only [Yr, Ys, Yt, Wa, Wg, Wl, Wo, Wr, Wu, opA, Wv, Wx, Wy, Wz, Za, Zb, Vb, true_and, Yb, eq_self, RoundEnd]
  refine ⟨_, _, _, _, _, hlp4, ⟨?_, Vk, ?_⟩, ?_, ?_, ?_⟩
  · exact hI.frame _ σ4 _ hS4 fun i hi => Vl (fun q => hlp (q ▸ hi))
  · rw [Vl hne]; exact hK4.keep b2 _ hb2o hb23
  · have := hK4.le; show σ.next ≤ σ4.next; omega
  · intro i b hi e
    have h1 : i ≠ lp := fun q => hi (.inr (.inl q))
    rw [Vl h1]
    exact hK4.keep i b (fun q => hi (.inl q)) (hkeep i b h1 e)
  · exact hK4.wf.set (hK4.wf.lt hlp4) _
theorem termsS1_ok : ∀ (m : Nat) (l : List T), T.cnts l ≤ m → m ≤ 1152921504606846976 → ∀ (S : Type) (St : S → AState → Prop) (step : S → T → S) (Own : Nat → Prop) (y : Nat), Iter St Own → YT' St step Own (.yieldf y) →
    ∀ (s : S) (σ : AState) (g : Mem) (b : Nat) (o : Option (Nat × Nat)) (n : Nat) (c : Option Nat) (z : Nat), St s σ → Sub g σ.get → Free Own g → Ts g o n z l → σ.get b = some (.cells [.slice o n c z] true) → ¬ Own b →
    RunV RR Tryz.prog (.func (.func n_syntax_termsS1) [] [.ptr (some (b, 0))]) [.yieldf y] σ (fun u σ' => St (T.folds step s l) σ' ∧ Kept Own σ σ') := by
  intro m
  induction m using Nat.strongRecOn with
  | _ m ih =>
  intro l hl hm S St step Own y hI hy s σ g b o n c z hS hg0 hfree hT hb hbo
  refine RunV.wf fun hW => ?_
  refine runF_intro hmx rf_syntax_termsS1 ?_
  have hn : n = l.length := hT.1
  have hlen := cnts_len l
  have hbl := hW.lt hb
  have hOl : ∀ i, Own i → i < σ.next := fun i hi => hI.lt hW hS hi
  have hOn : ¬ Own σ.next := fun h => by have := hOl _ h; omega
  simp -implicitDefEqProofs (maxDischargeDepth := 15) only [Yr, Ys, Yt, Wj, Wk, Wm, Wo, opA, Wv, Ww, Wx, Wy, Wz, Za, Zb, List.replicate, Zc, Zd, Vb, Vc, Vd, AV.cells, Vh, partA, Zf, Zg, Nat.reduceAdd, Nat.reduceSub, Zk, Zq, i_syntax_termsS1, c5_0, c5_1, c5_7, c5_8, c5_9, c5_10, c5_11, c5_12, c5_13, c5_14, c5_15, c5_16, c5_17, c5_18, c5_19, hbl, hb]
  refine wp_loop (fun ts σ' m => ∃ k : Nat, St (T.folds step s (l.take k)) σ' ∧ Kept Own (σ.push (.cells [.yieldf y] true)) σ' ∧ k + m = n ∧ ∃ j0 j3 j4 j5 j9 j10 j11 j12 j13 j14 j15 j16 j17 j18 j19 j20 j21 j22 j23 j24 : AV, ts = [j0, .ptr (some (b, 0)), .ptr (some (σ.next, 0)), j3, j4, j5, .slice o n c z, .int .i64 n, .int .i64 k, j9, j10, j11, j12, j13, j14, j15, j16, j17, j18, j19, j20, j21, j22, j23, j24]) n ⟨0, hI.push hW hS _, Kept.refl (hW.push _), by omega, _, _, _, _, _, _, _, _, _, _, _, _, _, _, _, _, _, _, _, _, rfl⟩ ?_
  rintro m' ts σ' ⟨k, hSk, hK, hk, j0, j3, j4, j5, j9, j10, j11, j12, j13, j14, j15, j16, j17, j18, j19, j20, j21, j22, j23, j24, rfl⟩
  have hgk : Sub g σ'.get := hK.sub hfree (hg0.trans (sub_push hW _))
  have hb2 := hK.keep σ.next _ hOn Vg
  have hb2l := hK.wf.lt hb2
  by_cases hlt : k < n
  · obtain ⟨t, ht, htm⟩ := get_lt (l := l) (k := k) (by omega)
    obtain ⟨rfl, i, off, cs, w, rfl, hg, hlen3, xs, hxs, hd2⟩ := hT.elem ht
    have hgi := hgk _ _ hg
    have hnt := cnts_mem htm
    obtain ⟨v, nm, ar⟩ := t
    have hd3 := hd2
    obtain ⟨o1, c1, z1, rfl, hA⟩ := T.cells hd2
    have hi := hK.wf.lt hgi
    have hd : decide ((k : Int) < n) = true := decide_eq_true (by omega)
    have e1 : (0 : Int) ≤ (k : Int) ∧ (k : Int) < (n : Int) := by omega
    have hnt' := hnt
    simp only [T.cnt] at hnt'
    simp -implicitDefEqProofs (maxDischargeDepth := 15) only [↓reduceIte, Yr, Ys, Yt, Yz, Wb, Wg, Wj, Wk, Wl, Wm, Wo, Ws, Wt, opA, Wv, Wx, Wy, Wz, Va, Za, Zb, Zd, Ze, Vb, Vc, Vd, Ve, AV.cells, Vg, Vh, Vn, partA, Zf, Zg, Zh, Zi, Nat.reduceAdd, Zj, Zk, Zm, Zn, Zo, Zp, Zq, Zs, Zt, binA, putL, allOne, Zu, Zv, AV.one, Zy, and_self, EndOk, resultA, Yf, eq_self, Yp, e1, hgi, hlen3, hxs, hb2, hb2l]
    have hOl' : ∀ i, Own i → i < σ'.next := fun i hi => hI.lt hK.wf hSk hi
    have hOn' : ¬ Own σ'.next := fun h => by have := hOl' _ h; omega
    refine (hy _ _ g _ (.mk v nm ar) (by omega) (hI.push hK.wf hSk _) (hK.wf.push _) (hgk.trans (sub_push hK.wf _)) hfree hd3).mono ?_
    rintro u σ1 ⟨rfl, hS1, hK1⟩
    have hb3 := hK1.keep σ'.next _ hOn' Vg
    have hb3l := hK1.wf.lt hb3
    have hb4 := hK1.keep σ.next _ hOn (by rw [Vh hb2l]; exact hb2)
    have hb4l := hK1.wf.lt hb4
    have hg1 : Sub g σ1.get := hK1.sub hfree (hgk.trans (sub_push hK.wf _))
    simp -implicitDefEqProofs (maxDischargeDepth := 15) only [Yr, Ys, Yt, Wa, Wb, Wg, Wj, Wk, Wl, Wo, Wu, opA, Wv, Ww, Wx, Wy, Wz, Za, Zb, Vb, partA, Zh, Zi, Zk, Zq, Zr, Yb, hb3]
    refine RunV.to (terms_ok _ _ _ _ _) ?_
    simp -implicitDefEqProofs (maxDischargeDepth := 15) only [Yr, Wm, Wn, Wo, Wu, Wv, Wx, Wy, Wz, Za, Zb]
    have hWp := hK1.wf.push (.cells [.slice o1 ar.length c1 z1] true)
    generalize hσ2 : σ1.push (.cells [.slice o1 ar.length c1 z1] true) = σ2
    rw [hσ2] at hWp
    have h12 : Sub σ1.get σ2.get := by rw [← hσ2]; exact sub_push hK1.wf _
    have hn12 : σ2.next = σ1.next + 1 := by rw [← hσ2]; rfl
    have hcl : σ2.get σ1.next = some (.cells [.slice o1 ar.length c1 z1] true) := by rw [← hσ2, Vg]
    have hS2 : St (step (T.folds step s (l.take k)) (.mk v nm ar)) σ2 := by rw [← hσ2]; exact hI.push hK1.wf hS1 _
    have hOl1 : ∀ i, Own i → i < σ1.next := fun i hi => hI.lt hK1.wf hS1 hi
    have hlpo : ¬ Own σ2.next := fun h => by have := hOl1 _ h; omega
    have hb2l1 : σ.next < σ1.next := hK1.wf.lt hb4
    refine RunV.mono (ih (T.cnts ar) (by omega) ar (Nat.le_refl _) (by omega) S _ step _ σ2.next (tyIter hI) (termsY_ok hI hy hlpo hOn (by omega)) (step (T.folds step s (l.take k)) (.mk v nm ar)) _ g σ1.next o1 ar.length c1 z1 (TySt.mk (hI.push hWp hS2 _) Vg (by rw [Vh (by omega)]; exact h12 _ _ hb4)) ?_ ?_ hA ?_ ?_) ?_
    · exact (hg1.trans h12).trans (sub_push hWp _)
    · intro i b hb hi
      rcases hi with hi | rfl | rfl
      · exact hfree i b hb hi
      · have := hK1.wf.lt (hg1 _ _ hb); omega
      · have := hW.lt (hg0 _ _ hb); omega
    · rw [Vh (by omega)]; exact hcl
    · rintro (h | h | h)
      · have := hOl1 _ h; omega
      · omega
      · omega
    · rintro u σ5 ⟨⟨hS5, hl5, hb5⟩, hK5⟩
      rw [rangeK_ok hl5]
      simp -implicitDefEqProofs (maxDischargeDepth := 15) only [↓reduceIte, Yr, Ys, Yt, Wj, Wo, Wr, opA, Wv, Ww, Wx, Wy, Wz, Za, Zb, Vb, binA, eq_self]
      rw [wrap_i64 (n := (k : Int) + 1) (by omega)]
      have hS6 : St (T.folds step s (l.take (k + 1))) (σ5.kill σ2.next) := by
        rw [tfolds_take step ht]
        exact hI.frame _ σ5 _ hS5 fun i hi => Vm (fun q => by subst q; exact hlpo hi)
      have hK6 : Kept Own (σ.push (.cells [.yieldf y] true)) (σ5.kill σ2.next) := by
        refine ⟨?_, ?_, hK5.wf.kill _⟩
        · have h1 := hK.le; have h2 := hK1.le; have h3 := hK5.le
          show (σ.push _).next ≤ σ5.next
          have h4 : (σ2.push (.loop .ready none [] [] .skip .skip)).next = σ2.next + 1 := rfl
          have h5 : (σ'.push (.loop .ready none [] [] .skip .skip)).next = σ'.next + 1 := rfl
          simp only [AState.push_next] at h1 h2 h3 ⊢
          omega
        · intro i b hi e
          by_cases hib : i = σ.next
          · subst hib
            rw [Vg] at e; cases e
            rw [Vm (by omega)]; exact hb5
          · have e1 := hK.keep i b hi e
            have e2 := hK1.keep i b hi ((sub_push hK.wf _) i b e1)
            have e3 := h12 i b e2
            have hil := hK1.wf.lt e2
            rw [Vm (by omega)]
            refine hK5.keep i b ?_ ((sub_push hWp _) i b e3)
            rintro (h | h | h)
            · exact hi h
            · omega
            · exact hib h
      exact ⟨m' - 1, by omega, k + 1, hS6, hK6, by omega, _, _, _, _, _, _, _, _, _, _, _, _, _, _, _, _, _, _, _, _, rfl⟩
  · have hd : decide ((k : Int) < n) = false := decide_eq_false (by omega)
    simp -implicitDefEqProofs (maxDischargeDepth := 15) only [↓reduceIte, Yr, Ys, Yt, Wa, Wi, Wj, Wk, Wl, Wo, Wp, Ws, Wt, opA, Wv, Wx, Wy, Wz, Za, Zb, Vb, binA, EndOk, resultA, eq_self, hd]
    have : l.take k = l := List.take_of_length_le (by omega)
    rw [this] at hSk
    exact ⟨hSk, ((Kept.refl hW).push _).trans hK⟩
end Go.Am
namespace Go.Am
open Go.RowKit Go.Proofs Do
set_option maxRecDepth 100000
abbrev wI (n : Nat) : AV := .int .i64 (IntKind.wrap .i64 n)
theorem wrap_add1 (s : Nat) : wrapF .i64 (IntKind.wrap .i64 s + 1) = IntKind.wrap .i64 ((s + 1 : Nat) : Int) := by
  rw [wrapF_eq, IntKind.wrap_i64, IntKind.wrap_i64, IntKind.wrap_i64]; omega
def NSt2 (c lp : Nat) (ts0 : List AV) (s : Nat) (σ : AState) : Prop := σ.get c = some (.cells [wI s] true) ∧ σ.get lp = some (.loop .ready none ts0 [13] .skip c68_2)
theorem NSt2.mk {c lp : Nat} {ts0 : List AV} {s : Nat} {σ : AState} (h : σ.get c = some (.cells [wI s] true)) (k : σ.get lp = some (.loop .ready none ts0 [13] .skip c68_2)) : NSt2 c lp ts0 s σ := ⟨h, k⟩
def NSt (c lp : Nat) (ts0 : List AV) (s : Nat) (σ : AState) : Prop := σ.get c = some (.cells [wI s] true) ∧ σ.get lp = some (.loop .ready none ts0 [7] c68_0 c68_7)
theorem NSt.mk {c lp : Nat} {ts0 : List AV} {s : Nat} {σ : AState} (h : σ.get c = some (.cells [wI s] true)) (k : σ.get lp = some (.loop .ready none ts0 [7] c68_0 c68_7)) : NSt c lp ts0 s σ := ⟨h, k⟩
def NOwn (c lp : Nat) (i : Nat) : Prop := i = c ∨ i = lp
theorem nIter2 (c lp : Nat) (ts0 : List AV) : Iter (NSt2 c lp ts0) (NOwn c lp) where
  own s σ i h k := by
    rcases k with rfl | rfl
    · exact ⟨_, h.1⟩
    · exact ⟨_, h.2⟩
  frame s σ σ' h k := ⟨by rw [k c (.inl rfl)]; exact h.1, by rw [k lp (.inr rfl)]; exact h.2⟩
theorem nIter (c lp : Nat) (ts0 : List AV) : Iter (NSt c lp ts0) (NOwn c lp) where
  own s σ i h k := by
    rcases k with rfl | rfl
    · exact ⟨_, h.1⟩
    · exact ⟨_, h.2⟩
  frame s σ σ' h k := ⟨by rw [k c (.inl rfl)]; exact h.1, by rw [k lp (.inr rfl)]; exact h.2⟩
theorem nodesY2_ok {c lp : Nat} (hne : c ≠ lp) {j0 j1 j2 j4 j5 j6 j7 j8 j9 j10 j11 j12 j13 j14 j15 j16 : AV} : YT' (NSt2 c lp [j0, j1, j2, .ptr (some (c, 0)), j4, j5, j6, j7, j8, j9, j10, j11, j12, j13, j14, j15, j16]) (fun s _ => s + 1) (NOwn c lp) (.yieldf lp) := by
  rintro s σ g xs t ht ⟨hc, hl⟩ hW hg hfree hD
  refine runY_intro hmx hl rfl ?_
  have hll := hW.lt hl
  have hcl := hW.lt hc
  simp -implicitDefEqProofs (maxDischargeDepth := 15) only [Ys, Wg, Wj, Wm, opA, Wv, Wx, Wy, Za, Zb, partA, true_and, eq_self, setPs, c68_1, c68_2]
  refine ⟨_, _, _, _, _, hl, ?_⟩
  have hne' : lp ≠ c := Ne.symm hne
  have hc1 : (σ.set lp (.loop .busy none [j0, j1, j2, .ptr (some (c, 0)), j4, j5, j6, j7, j8, j9, j10, j11, j12, j13, j14, j15, j16] [13] .skip c68_2)).get c = some (.cells [wI s] true) := by rw [Vl hne]; exact hc
  simp -implicitDefEqProofs (maxDischargeDepth := 15) only [↓reduceIte, Yr, Ys, Yt, Wr, opA, Wv, Ww, Wx, Wy, Wz, Va, Za, Zb, Zd, Ze, Vb, Vc, Ve, AV.cells, Vk, Vl, Zf, Zg, Zj, Zk, Zn, Zp, Zq, Zs, binA, putL, allOne, Zu, Zv, AV.one, Zy, and_self, true_and, eq_self, ne_eq, Yo, hc, hne, hne', wrap_add1, RoundEnd]
  refine ⟨_, _, _, _, _, by first | rfl | rw [Vl hne', Vk], ⟨?_, Vk⟩, Nat.le_refl _, ?_, ?_⟩
  · rw [Vl hne, Vk]
  · intro i b hi e
    have h1 : i ≠ c := fun q => hi (.inl q)
    have h2 : i ≠ lp := fun q => hi (.inr q)
    rw [Vl h2, Vl h1, Vl h2]; exact e
  · exact ((hW.set hll _).set hcl _).set hll _
theorem tfolds_cnt (l : List T) (s : Nat) : T.folds (fun s _ => s + 1) s l = s + T.cnts l := by
  have key : ∀ (m : Nat) (l : List T) (s : Nat), T.cnts l ≤ m → T.folds (fun s _ => s + 1) s l = s + T.cnts l := by
    intro m
    induction m with
    | zero =>
      intro l s h
      cases l with
      | nil => simp [T.folds, T.cnts]
      | cons a r => cases a; simp [T.cnts, T.cnt] at h
    | succ m ih =>
      intro l
      induction l with
      | nil => intro s _; simp [T.folds, T.cnts]
      | cons a r ih2 =>
        intro s h
        obtain ⟨v, n, ar⟩ := a
        simp only [T.cnts, T.cnt] at h
        simp only [T.folds, T.fold, T.cnts, T.cnt]
        rw [ih ar _ (by omega), ih2 _ (by omega)]
        omega
  exact key _ l s (Nat.le_refl _)
def fArgs : F → List T
  | .mk _ _ ar _ => ar
mutual
theorem ffold_nodes : ∀ (f : F) (s : Nat), F.fold (fun s f => s + 1 + T.cnts (fArgs f)) s f = s + f.nodes
  | .mk op n ar l, s => by
    simp only [F.fold, F.nodes]
    show F.folds (fun s f => s + 1 + T.cnts (fArgs f)) (s + 1 + T.cnts ar) l = _
    rw [ffolds_nodes l]; omega
theorem ffolds_nodes : ∀ (l : List F) (s : Nat), F.folds (fun s f => s + 1 + T.cnts (fArgs f)) s l = s + F.nodess l
  | [], s => by simp [F.folds, F.nodess]
  | f :: r, s => by simp only [F.folds, F.nodess]; rw [ffold_nodes f, ffolds_nodes r]; omega
end
theorem nodesY_ok {c lp : Nat} (hne : c ≠ lp) {j0 j1 j2 j4 j5 j6 j7 j8 j9 j10 j11 j12 j13 j14 j15 j16 : AV} : YF' (NSt c lp [j0, j1, j2, .ptr (some (c, 0)), j4, j5, j6, j7, j8, j9, j10, j11, j12, j13, j14, j15, j16]) (fun s f => s + 1 + T.cnts (fArgs f)) (NOwn c lp) (.yieldf lp) := by
  rintro s σ g xs f hf ⟨hc, hl⟩ hW hg hfree hD
  refine runY_intro hmx hl rfl ?_
  have hll := hW.lt hl
  have hcl := hW.lt hc
  have hne' : lp ≠ c := Ne.symm hne
  obtain ⟨op, nm, ar, l⟩ := f
  simp only [F.nodes] at hf
  obtain ⟨o1, c1, z1, o2, c2, z2, rfl, hA, hL⟩ := F.cells hD
  simp -implicitDefEqProofs (maxDischargeDepth := 15) only [↓reduceIte, Yr, Ys, Yt, Wj, opA, Wv, Wx, Wy, Wz, Va, Za, Zb, Zd, Ze, Vb, Vc, Vd, Ve, AV.cells, Vg, Vh, Vn, Zf, Zg, Nat.reduceAdd, Zj, Zk, Zn, Zp, Zs, putL, allOne, Zu, Zv, AV.one, Zy, and_self, true_and, eq_self, setPs, c68_0, hll]
  refine ⟨_, _, _, _, _, hl, ?_⟩
  generalize hσ3 : (σ.push (.cells [.int .u8 op, .str nm, .slice o1 ar.length c1 z1, .slice o2 l.length c2 z2] true)).set lp (.loop .busy none [j0, j1, j2, .ptr (some (c, 0)), j4, j5, j6, j7, j8, j9, j10, j11, j12, j13, j14, j15, j16] [7] c68_0 c68_7) = σ3
  have hkeep : ∀ i b, i ≠ lp → σ.get i = some b → σ3.get i = some b := fun i b hi e => by
    rw [← hσ3, Vl hi, Vh (hW.lt e)]; exact e
  have hW3 : σ3.Wf := by rw [← hσ3]; exact (hW.push _).set (Vj hll) _
  have hlp3 : σ3.get lp = some (.loop .busy none [j0, j1, j2, .ptr (some (c, 0)), j4, j5, j6, j7, j8, j9, j10, j11, j12, j13, j14, j15, j16] [7] c68_0 c68_7) := by rw [← hσ3, Vk]
  have hnx : σ3.next = σ.next + 1 := by rw [← hσ3]; rfl
  have h53 : σ3.get σ.next = some (.cells [.int .u8 op, .str nm, .slice o1 ar.length c1 z1, .slice o2 l.length c2 z2] true) := by rw [← hσ3, Vl (by omega), Vg]
  have hc3 := hkeep c _ hne hc
  have hnc : σ.next ≠ c := by omega
  simp -implicitDefEqProofs (maxDischargeDepth := 15) only [↓reduceIte, Yr, Ys, Yt, Wb, Wj, Wk, Wm, Wo, opA, Wv, Ww, Wx, Wy, Wz, Va, Za, Zb, Zd, Ze, Vb, Vc, Ve, AV.cells, Vl, partA, Zf, Zg, Zh, Zi, Zj, Zk, Zn, Zp, Zq, Zr, Zs, binA, putL, allOne, Zu, Zv, AV.one, Zy, and_self, eq_self, ne_eq, Yo, c68_3, c68_4, c68_5, c68_6, c68_7, hc3, h53, hnc, wrap_add1]
  generalize hσ4 : σ3.set c (.cells [wI (s + 1)] true) = σ4
  have hW4 : σ4.Wf := by rw [← hσ4]; exact hW3.set (hW3.lt hc3) _
  have hn4 : σ4.next = σ3.next := by rw [← hσ4]; rfl
  have hc4 : σ4.get c = some (.cells [wI (s + 1)] true) := by rw [← hσ4, Vk]
  have hk4 : ∀ i b, i ≠ c → σ3.get i = some b → σ4.get i = some b := fun i b hi e => by rw [← hσ4, Vl hi]; exact e
  have h54 := hk4 σ.next _ hnc h53
  try simp -implicitDefEqProofs (maxDischargeDepth := 15) only [↓reduceIte, Yr, Ys, Yt, Yu, Yv, Yw, Yx, Yy, Yz, Wa, Wb, Wc, Wd, We, Wf, Wg, Wh, Wi, Wj, Wk, Wl, Wm, Wn, Wo, Wp, Wq, Wr, Ws, Wt, Wu, opA, Wv, Ww, Wx, Wy, Wz, Va, Za, Zb, List.replicate, Zc, Zd, Ze, Vb, Vc, Vd, Ve, Vf, AV.cells, Vg, Vh, Vi, Vj, AState.set_next, AState.kill_next, Vk, Vl, Vm, Vn, Vo, Vp, Vq, Vr, Vs, Vt, partA, Zf, Zg, Zh, Zi, if_true, if_false, Nat.reduceAdd, Nat.reduceLeDiff, Nat.reduceSub, Zj, Nat.zero_le, Zk, Zl, Zm, Zn, Zo, Zp, Zq, Zr, Zs, Zt, binA, eqA, kEq, nilEq, fillA, putL, allOne, Zu, Zv, AV.one, Zw, Zx, Zy, and_self, and_true, true_and, lenA, firstA, EndOk, resultA, oneOf, Zz, Ya, Yb, Yc, Yd, Ye, reduceCtorEq, Yf, Yg, natOf, upTo, bMax, bHigh, bLow, boundsA, evO, Yh, Yi, againOk, Vu, Vv, Vw, Yj, Yk, eq_self, Yl, Ym, Yn, setPs, or_true, true_or, false_or, or_false, ne_eq, Yo, Vx, Vy, Yp, Yq, i_syntax_Nodes, c68_0, c68_1, c68_3, c68_4, c68_5, c68_6, c68_7, c68_8, c68_9, c68_10, c68_11, c68_12, c68_13, h54]
  refine RunV.to (terms_ok _ _ _ _ _) ?_
  simp -implicitDefEqProofs (maxDischargeDepth := 15) only [Yr, Wm, Wn, Wo, Wu, Wv, Wx, Wy, Wz, Za, Zb]
  have hWp := hW4.push (.cells [.slice o1 ar.length c1 z1] true)
  generalize hσ5 : σ4.push (.cells [.slice o1 ar.length c1 z1] true) = σ5
  rw [hσ5] at hWp
  have h45 : Sub σ4.get σ5.get := by rw [← hσ5]; exact sub_push hW4 _
  have hn5 : σ5.next = σ4.next + 1 := by rw [← hσ5]; rfl
  have hb5 : σ5.get σ4.next = some (.cells [.slice o1 ar.length c1 z1] true) := by rw [← hσ5, Vg]
  have hc5 := h45 _ _ hc4
  have hlp4 := hk4 lp _ hne' hlp3
  have hlp5 := h45 _ _ hlp4
  have hg5 : Sub g σ5.get := fun i b e => h45 i b (hk4 i b (fun q => hfree i b e (.inl q)) (hkeep i b (fun q => hfree i b e (.inr q)) (hg i b e)))
  refine RunV.mono (termsS1_ok (T.cnts ar) ar (Nat.le_refl _) (by omega) Nat _ (fun s _ => s + 1) (NOwn c σ5.next) σ5.next (nIter2 c σ5.next _) (nodesY2_ok (by omega)) (s + 1) _ g σ4.next o1 ar.length c1 z1
    (NSt2.mk (by rw [Vh (by omega)]; exact hc5) Vg) (hg5.trans (sub_push hWp _)) (fun i b e q => by
      rcases q with q | q
      · exact hfree i b e (.inl q)
      · have := hW.lt (hg i b e); omega) hA (by rw [Vh (by omega)]; exact hb5) (by rintro (q | q) <;> omega)) ?_
  rintro u σ6 ⟨⟨hc6, hl6⟩, hK6⟩
  rw [rangeK_ok hl6]
  simp -implicitDefEqProofs (maxDischargeDepth := 15) only [Wr, true_and, eq_self, RoundEnd]
  rw [tfolds_cnt] at hc6
  have hlp6 := hK6.keep lp _ (by rintro (q | q) <;> omega) (by rw [Vh (by omega)]; exact hlp5)
  have hl5 := hW4.lt hlp4
  refine ⟨_, _, _, _, _, by rw [Vm (by omega)]; exact hlp6, ⟨?_, Vk⟩, ?_, ?_, ?_⟩
  · rw [Vl hne, Vm (by omega)]; exact hc6
  · have h1 := hK6.le
    simp only [AState.push_next] at h1
    show σ.next ≤ σ6.next; omega
  · intro i b hi e
    have h1 : i ≠ c := fun q => hi (.inl q)
    have h2 : i ≠ lp := fun q => hi (.inr q)
    have h3 := hW.lt e
    rw [Vl h2, Vm (by omega)]
    refine hK6.keep i b (by rintro (q | q) <;> omega) ?_
    rw [Vh (by omega)]
    exact h45 i b (hk4 i b h1 (hkeep i b h2 e))
  · have h1 := hK6.le
    simp only [AState.push_next] at h1
    exact (hK6.wf.kill _).set (by show lp < σ6.next; omega) _
theorem nodes_ok (f : F) (hf : f.nodes ≤ 1152921504606846976) (σ : AState) (xs : List AV) (hD : DAtL σ.get f.dv xs) : RunF RR Tryz.prog n_syntax_Nodes [.agg xs] σ (fun u σ' => u = .int .i64 f.nodes ∧ σ' = σ) := by
  refine RunV.wf fun hW => RunV.forget rfl ?_
  refine runF_intro hmx rf_syntax_Nodes ?_
  have hl : 4 ≤ xs.length := by rw [hD.length, F.dv_len]; omega
  have ht : xs.take 4 = xs := List.take_of_length_le (by rw [hD.length, F.dv_len]; omega)
  simp -implicitDefEqProofs (maxDischargeDepth := 15) only [↓reduceIte, Yr, Ys, Yt, Wb, Wj, Wk, Wo, opA, Wv, Ww, Wx, Wy, Wz, Va, Za, Zb, List.replicate, Zc, Zd, Ze, Vb, Vc, Vd, Ve, AV.cells, Vg, Vh, Vi, Vn, partA, Zf, Zg, Zh, Zi, Nat.reduceSub, Zj, Zk, Zm, Zn, Zp, Zs, putL, allOne, Zu, Zv, AV.one, Zy, and_self, eq_self, i_syntax_Nodes, c68_8, c68_9, c68_10, c68_11, c68_12, c68_13, hl, ht]
  refine RunV.to (all_ok _ _) ?_
  simp -implicitDefEqProofs (maxDischargeDepth := 15) only [Yr, Wm, Wn, Wo, Wu, Wv, Wx, Wy, Wz, Za, Zb]
  have hW1 := hW.push (.cells xs true)
  have hW2 := hW1.push (.cells [.int .i64 0] true)
  have hW3 := hW2.push (.cells xs true)
  have h01 := sub_push hW (.cells xs true)
  have h12 := sub_push hW1 (.cells [.int .i64 0] true)
  have h23 := sub_push hW2 (.cells xs true)
  refine RunV.mono (allS1_ok (nIter (σ.push (.cells xs true)).next _ _) (nodesY_ok (by simp only [AState.push_next]; omega)) f hf 0 _ σ.get xs _
    (NSt.mk (by rw [Vh (by simp only [AState.push_next]; omega), Vh (by simp only [AState.push_next]; omega), Vg]; rfl) Vg) (h01.trans (h12.trans (h23.trans (sub_push hW3 _)))) (fun i b e q => by
      have := hW.lt e
      simp only [NOwn, AState.push_next] at q; omega) hD (by rw [Vh (by simp only [AState.push_next]; omega), Vg])) ?_
  rintro u σ6 ⟨⟨hc6, hl6⟩, hK6⟩
  rw [rangeK_ok hl6]
  have hne : (σ.push (.cells xs true)).next ≠ (((σ.push (.cells xs true)).push (.cells [.int .i64 0] true)).push (.cells xs true)).next := by simp only [AState.push_next]; omega
  rw [ffold_nodes] at hc6
  have hck : (σ6.kill (((σ.push (.cells xs true)).push (.cells [.int .i64 0] true)).push (.cells xs true)).next).get (σ.push (.cells xs true)).next = some (.cells [wI (0 + f.nodes)] true) := by rw [Vm hne]; exact hc6
  simp -implicitDefEqProofs (maxDischargeDepth := 15) only [Yr, Ys, Yt, Wh, Wj, Wk, Wo, Wr, opA, Wv, Wx, Wy, Wz, Za, Zb, Vb, Vm, partA, Zk, Zq, EndOk, resultA, oneOf, Zz, ne_eq, Yo, hc6, hne]
  refine ⟨by show AV.int .i64 (IntKind.wrap .i64 _) = _; rw [IntKind.wrap_i64]; simp only [AV.int.injEq, true_and]; omega, fun i b e => ?_⟩
  have := hW.lt e
  rw [Vm (by simp only [AState.push_next]; omega)]
  exact hK6.keep i b (by simp only [NOwn, AState.push_next]; omega) ((sub_push hW3 _) i b (h23 i b (h12 i b (h01 i b e))))
end Go.Am
