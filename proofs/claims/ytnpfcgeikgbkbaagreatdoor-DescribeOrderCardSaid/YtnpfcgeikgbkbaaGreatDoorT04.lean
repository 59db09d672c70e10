/-
  A PART of the proof: OrIr2, OrIr3, OrW1, OrW2, OrW3.
-/
import Derived.Test.YtnpfcgeikgbkbaaGreatDoorT02
import Derived.Test.YtnpfcgeikgbkbaaGreatDoorT03
set_option linter.unusedSimpArgs false
set_option linter.unusedVariables false
namespace Go.Am
open Go.Proofs
set_option maxRecDepth 100000
noncomputable def c42_0 : List It := [.op (some 25) none (.un .not (.t 24))]
noncomputable def c42_1 : AC := .seq (.its ([.op (some 2) none (.mv (.c (.bool false)))])) .ret
noncomputable def c42_2 : AC := .cond (.t 25) c42_1 .skip
noncomputable def c42_3 : List It := [.op (some 3) none (.alloc [.str [], .int .u8 0, .str [], .slice none 0 (some 0) 0, .slice none 0 (some 0) 0, .int .i64 0, .slice none 0 (some 0) 0, .slice none 0 (some 0) 0]), .op none none (.store 8 (.t 3) (.t 27))]
noncomputable def c42_4 : List It := [.op (some 28) none (.mv (.t 30)), .op (some 31) none (.extract 0 (.t 28)), .op (some 32) none (.extract 1 (.t 28)), .op (some 4) none (.mv (.t 31)), .op (some 5) none (.mv (.t 32))]
noncomputable def c42_5 : List It := [.op (some 33) none (.mv (.t 36)), .op (some 37) none (.extract 0 (.t 33)), .op (some 38) none (.extract 1 (.t 33)), .op (some 6) none (.mv (.t 37)), .op (some 7) none (.mv (.t 38))]
noncomputable def c42_6 : AC := .seq (.its ([.op (some 2) none (.mv (.c (.bool false)))])) .ret
noncomputable def c42_7 : AC := .cond (.t 47) c42_6 .skip
noncomputable def c42_8 : List It := [.op (some 59) none (.mv (.t 65)), .op (some 66) none (.extract 0 (.t 59)), .op (some 67) none (.extract 1 (.t 59)), .op (some 11) none (.mv (.t 66)), .op (some 12) none (.mv (.t 67))]
noncomputable def c42_9 : List It := .op (some 64) none (.bin .add (.t 63) (.c (.str [58, 32]))) :: .call (some 65) none (.c (.func (.func n_strings_CutPrefix) [] [])) [.t 60, .t 64] :: c42_8
noncomputable def c42_10 : AC := .seq (.its ([.op (some 2) none (.mv (.c (.bool false)))])) .ret
noncomputable def c42_11 : AC := .cond (.t 69) c42_10 .skip
noncomputable def c42_12 : List It := [.op (some 70) none (.mv (.t 72)), .op (some 73) none (.extract 0 (.t 70)), .op (some 74) none (.extract 1 (.t 70)), .op (some 75) none (.extract 2 (.t 70)), .op (some 13) none (.mv (.t 73)), .op (some 14) none (.mv (.t 74)), .op (some 15) none (.mv (.t 75))]
noncomputable def c42_13 : AC := .cond (.t 77) (.exit 1) .skip
noncomputable def c42_14 : List It := [.op (some 80) none (.len .slice (.t 79)), .op (some 81) none (.mv (.c (.int .i64 0)))]
noncomputable def c42_15 : List It := [.op (some 85) none (.mv (.t 87)), .op (some 88) none (.extract 0 (.t 85)), .op (some 89) none (.extract 1 (.t 85)), .op (some 90) none (.extract 2 (.t 85)), .op (some 18) none (.mv (.t 88)), .op (some 19) none (.mv (.t 89)), .op (some 20) none (.mv (.t 90))]
noncomputable def c42_16 : List It := [.op (some 91) none (.mv (.t 93)), .op (some 94) none (.extract 0 (.t 91)), .op (some 95) none (.extract 1 (.t 91)), .op (some 21) none (.mv (.t 94)), .op (some 22) none (.mv (.t 95))]
noncomputable def c42_17 : AC := .seq (.its ([.op (some 2) none (.mv (.c (.bool false)))])) .ret
noncomputable def c42_18 : AC := .cond (.t 106) c42_17 .skip
noncomputable def c42_19 : AC := .its ([.op (some 107) none (.mv (.t 8)), .op (some 108) none (.mv (.t 21)), .op (some 109) none (.idxS 1 (.t 107) (.t 108)), .op (some 110) none (.load none (.t 109)), .op (some 111) none (.bin .add (.t 110) (.c (.int .i64 1))), .op (some 112) none (.idxS 1 (.t 107) (.t 108)), .op none none (.store 1 (.t 112) (.t 111))])
noncomputable def c42_20 : AC := .seq (.seq (.its ([.op (some 96) none (.mv (.t 22)), .op (some 97) none (.eq (.nilOf .ifaceC) true (.t 96) (.c .nilIface)), .op (some 98) none (.mv (.t 97)), .op (some 99) (some (98, false)) (.mv (.t 21)), .op (some 100) (some (98, false)) (.bin .lss (.t 99) (.c (.int .i64 1))), .op (some 101) none (.pick (.t 98) (.c (.bool true)) (.t 100)), .op (some 102) none (.mv (.t 101)), .op (some 103) (some (102, false)) (.mv (.t 21)), .op (some 104) (some (102, false)) (.mv (.t 9)), .op (some 105) (some (102, false)) (.bin .gtr (.t 103) (.t 104)), .op (some 106) none (.pick (.t 102) (.c (.bool true)) (.t 105))])) c42_18) c42_19
noncomputable def c42_21 : AC := .seq (.its (.op (some 92) none (.mv (.t 18)) :: .call (some 93) none (.c (.func (.func n_strconv_Atoi) [] [])) [.t 92] :: c42_16)) c42_20
noncomputable def c42_22 : AC := .seq (.its (.op (some 86) none (.mv (.t 17)) :: .call (some 87) none (.c (.func (.func n_strings_Cut) [] [])) [.t 86, .c (.str [32])] :: c42_15)) c42_21
noncomputable def c42_23 : AC := .seq (.its ([.op (some 83) none (.idxS 1 (.t 79) (.t 81)), .op (some 84) none (.load none (.t 83)), .op (some 17) none (.mv (.t 84))])) c42_22
noncomputable def c42_24 : AC := .its ([.op (some 113) none (.bin .add (.t 81) (.c (.int .i64 1))), .op (some 81) none (.mv (.t 113))])
noncomputable def c42_25 : AC := .seq (.block 3 c42_23) c42_24
noncomputable def c42_26 : AC := .seq (.cond (.t 82) .skip (.exit 2)) c42_25
noncomputable def c42_27 : AC := .seq (.its ([.op (some 82) none (.bin .lss (.t 81) (.t 80))])) c42_26
noncomputable def c42_28 : AC := .loop c42_27
noncomputable def c42_29 : AC := .block 2 c42_28
noncomputable def c42_30 : AC := .seq (.its (.op (some 78) none (.mv (.t 14)) :: .call (some 79) none (.c (.func (.func n_strings_Split) [] [])) [.t 78, .c (.str [44, 32])] :: c42_14)) c42_29
noncomputable def c42_31 : AC := .seq (.seq (.its ([.op (some 76) none (.mv (.t 15)), .op (some 77) none (.un .not (.t 76))])) c42_13) c42_30
noncomputable def c42_32 : AC := .seq (.its (.op (some 71) none (.mv (.t 11)) :: .call (some 72) none (.c (.func (.func n_strings_Cut) [] [])) [.t 71, .c (.str [32, 102, 114, 111, 109, 32])] :: c42_12)) c42_31
noncomputable def c42_33 : AC := .seq (.seq (.its ([.op (some 68) none (.mv (.t 12)), .op (some 69) none (.un .not (.t 68))])) c42_11) c42_32
noncomputable def c42_34 : AC := .seq (.its (.op (some 60) none (.mv (.t 10)) :: .op (some 61) none (.mv (.t 9)) :: .op (some 62) none (.bin .add (.t 61) (.c (.int .i64 1))) :: .call (some 63) none (.c (.func (.func n_strconv_Itoa) [] [])) [.t 62] :: c42_9)) c42_33
noncomputable def c42_35 : AC := .seq (.its ([.op (some 56) none (.mv (.t 54)), .op (some 57) none (.idxS 1 (.t 52) (.t 54)), .op (some 58) none (.load none (.t 57)), .op (some 9) none (.mv (.t 56)), .op (some 10) none (.mv (.t 58))])) c42_34
noncomputable def c42_36 : AC := .its ([.op (some 114) none (.bin .add (.t 54) (.c (.int .i64 1))), .op (some 54) none (.mv (.t 114))])
noncomputable def c42_37 : AC := .seq (.block 1 c42_35) c42_36
noncomputable def c42_38 : AC := .seq (.cond (.t 55) .skip (.exit 0)) c42_37
noncomputable def c42_39 : AC := .seq (.its ([.op (some 55) none (.bin .lss (.t 54) (.t 53))])) c42_38
noncomputable def c42_40 : AC := .loop c42_39
noncomputable def c42_41 : AC := .block 0 c42_40
noncomputable def c42_42 : AC := .cond (.t 118) .skip (.exit 4)
noncomputable def c42_43 : AC := .seq (.its ([.op (some 2) none (.mv (.c (.bool false)))])) .ret
noncomputable def c42_44 : AC := .cond (.t 125) c42_43 .skip
noncomputable def c42_45 : AC := .seq (.its ([.op (some 121) none (.mv (.t 8)), .op (some 122) none (.mv (.t 23)), .op (some 123) none (.idxS 1 (.t 121) (.t 122)), .op (some 124) none (.load none (.t 123)), .op (some 125) none (.bin .neq (.t 124) (.c (.int .i64 1)))])) c42_44
noncomputable def c42_46 : AC := .its ([.op (some 119) none (.mv (.t 23)), .op (some 120) none (.bin .add (.t 119) (.c (.int .i64 1))), .op (some 23) none (.mv (.t 120))])
noncomputable def c42_47 : AC := .seq (.block 5 c42_45) c42_46
noncomputable def c42_48 : AC := .seq (.seq (.its ([.op (some 115) none (.mv (.t 23)), .op (some 116) none (.mv (.t 4)), .op (some 117) none (.len .slice (.t 116)), .op (some 118) none (.bin .lss (.t 115) (.t 117))])) c42_42) c42_47
noncomputable def c42_49 : AC := .loop c42_48
noncomputable def c42_50 : AC := .block 4 c42_49
noncomputable def c42_51 : List It := [.op (some 141) none (.pick (.t 132) (.t 140) (.c (.bool false))), .op (some 2) none (.mv (.t 141))]
noncomputable def c42_52 : AC := .seq (.its (.op (some 126) none (.mv (.t 8)) :: .op (some 127) none (.mv (.t 4)) :: .op (some 128) none (.len .slice (.t 127)) :: .op (some 129) none (.idxS 1 (.t 126) (.t 128)) :: .op (some 130) none (.load none (.t 129)) :: .op (some 131) none (.bin .eql (.t 130) (.c (.int .i64 0))) :: .op (some 132) none (.mv (.t 131)) :: .op (some 133) (some (132, true)) (.mv (.t 4)) :: .op (some 134) (some (132, true)) (.mv (.t 4)) :: .op (some 135) (some (132, true)) (.len .slice (.t 134)) :: .op (some 136) (some (132, true)) (.bin .sub (.t 135) (.c (.int .i64 1))) :: .op (some 137) (some (132, true)) (.idxS 1 (.t 133) (.t 136)) :: .op (some 138) (some (132, true)) (.load none (.t 137)) :: .op (some 139) (some (132, true)) (.mv (.t 6)) :: .call (some 140) (some (132, true)) (.c (.func (.func n_strings_Contains) [] [])) [.t 138, .t 139] :: c42_51)) .ret
noncomputable def c42_53 : AC := .seq (.seq (.its ([.op (some 23) none (.mv (.c (.int .i64 1)))])) c42_50) c42_52
noncomputable def c42_54 : AC := .seq (.seq (.its ([.op (some 52) none (.mv (.t 4)), .op (some 53) none (.len .slice (.t 52)), .op (some 54) none (.mv (.c (.int .i64 0)))])) c42_41) c42_53
noncomputable def c42_55 : AC := .seq (.its ([.op (some 48) none (.mv (.t 4)), .op (some 49) none (.len .slice (.t 48)), .op (some 50) none (.bin .add (.t 49) (.c (.int .i64 1))), .op (some 51) none (.mkSlice 1 8 [.int .i64 0] (.t 50) (.t 50)), .op (some 8) none (.mv (.t 51))])) c42_54
noncomputable def c42_56 : AC := .seq (.seq (.its ([.op (some 39) none (.mv (.t 5)), .op (some 40) none (.mv (.t 7)), .op (some 41) none (.bin .add (.t 39) (.t 40)), .op (some 42) none (.bin .neq (.t 41) (.c (.int .i64 0))), .op (some 43) none (.mv (.t 42)), .op (some 44) (some (43, false)) (.mv (.t 4)), .op (some 45) (some (43, false)) (.len .slice (.t 44)), .op (some 46) (some (43, false)) (.bin .lss (.t 45) (.c (.int .i64 1))), .op (some 47) none (.pick (.t 43) (.c (.bool true)) (.t 46))])) c42_7) c42_55
noncomputable def c42_57 : AC := .seq (.its (.op (some 34) none (.fieldAddr 1 (.t 3)) :: .op (some 35) none (.load (some 4) (.t 34)) :: .call (some 36) none (.c (.func (.func n_describe_Form) [] [])) [.t 35] :: c42_5)) c42_56
noncomputable def c42_58 : AC := .seq (.its (.op (some 29) none (.load (some 8) (.t 3)) :: .call (some 30) none (.c (.func (.func n_describe_Proof) [] [])) [.t 29] :: c42_4)) c42_57
noncomputable def c42_59 : AC := .seq (.its (.op (some 26) none (.mv (.t 0)) :: .call (some 27) none (.c (.func (.func n_law41_Proved) [] [])) [.t 26] :: c42_3)) c42_58
noncomputable def c42_60 : AC := .seq (.seq (.its (.call (some 24) none (.c (.func (.func n_law41_awake) [] [])) [] :: c42_0)) c42_2) c42_59
noncomputable def c42_61 : AC := .seq (.its ([.op (some 2) none (.mv (.c (.bool false)))])) c42_60
noncomputable def i_law41_DescribeOrder : AFunc := ⟨142, [(2, none)], c42_61⟩
theorem rf_law41_DescribeOrder : resF Go.Proofs.Tryz.prog n_law41_DescribeOrder = some i_law41_DescribeOrder := by kernel_rfl
noncomputable def i_law41_awake : AFunc := ⟨173, [(0, none)], qa [qk 0 (.bool false)] (qa [qc 22 14 [qy [80], .c (.slice none 0 (some 0) 0)], qc 23 14 [qy [81], .c (.slice none 0 (some 0) 0)], qc 24 15 [qy [120]], qc 25 15 [qy [121]], qo 1 (.alloc [qu 0, .str [], .slice none 0 (some 0) 0, .slice none 0 (some 0) 0]), qo 2 (.alloc [qu 0, .str [], .slice none 0 (some 0) 0, .slice none 0 (some 0) 0]), qo 3 (.alloc [.bool false, .str [], .slice none 0 (some 0) 0]), qo 4 (.alloc [.bool false, .str [], .slice none 0 (some 0) 0]), qs 4 1 22, qs 4 2 23, qs 3 3 24, qs 3 4 25] (qa [qn 26 4 1, qn 27 4 2, qo 28 (.buildSlice 4 2 [qu 0, .str [], .slice none 0 (some 0) 0, .slice none 0 (some 0) 0, qu 0, .str [], .slice none 0 (some 0) 0, .slice none 0 (some 0) 0] [(0, 4, .t 26), (4, 4, .t 27)]), qc 29 16 [.c (qu 6), .t 28], qo 5 (.alloc [qu 0, .str [], .slice none 0 (some 0) 0, .slice none 0 (some 0) 0]), qs 4 5 29] (qa [qn 31 4 1, qn 32 4 2, qc 33 14 [qy [82], .c (.slice none 0 (some 0) 0)], .again 32 none (.load (some 4) (.t 2)), .again 31 none (.load (some 4) (.t 1)), qo 34 (.buildSlice 4 1 [qu 0, .str [], .slice none 0 (some 0) 0, .slice none 0 (some 0) 0] [(0, 4, .t 33)]), qc 35 16 [.c (qu 3), .t 34], .again 32 none (.load (some 4) (.t 2)), .again 31 none (.load (some 4) (.t 1)), qo 36 (.buildSlice 4 2 [qu 0, .str [], .slice none 0 (some 0) 0, .slice none 0 (some 0) 0, qu 0, .str [], .slice none 0 (some 0) 0, .slice none 0 (some 0) 0] [(0, 4, .t 32), (4, 4, .t 35)]), qc 37 16 [.c (qu 4), .t 36], .again 31 none (.load (some 4) (.t 1)), qo 38 (.buildSlice 4 2 [qu 0, .str [], .slice none 0 (some 0) 0, .slice none 0 (some 0) 0, qu 0, .str [], .slice none 0 (some 0) 0, .slice none 0 (some 0) 0] [(0, 4, .t 31), (4, 4, .t 37)]), qc 39 16 [.c (qu 6), .t 38], qc 40 7 [.t 39], qm 30 40, qe 41 0 30, qe 42 1 30, qm 6 41, qm 7 42] (qa [qn 44 3 3, qn 45 3 4, qc 46 18 [qy [97], .c (.slice none 0 (some 0) 0)], .again 45 none (.load (some 3) (.t 4)), .again 44 none (.load (some 3) (.t 3)), qo 47 (.buildSlice 3 2 [.bool false, .str [], .slice none 0 (some 0) 0, .bool false, .str [], .slice none 0 (some 0) 0] [(0, 3, .t 45), (3, 3, .t 46)]), qc 48 18 [qy [102], .t 47], .again 44 none (.load (some 3) (.t 3)), qo 49 (.buildSlice 3 2 [.bool false, .str [], .slice none 0 (some 0) 0, .bool false, .str [], .slice none 0 (some 0) 0] [(0, 3, .t 44), (3, 3, .t 48)]), qc 50 14 [qy [82], .t 49], qc 51 17 [.c (qu 9), qy [121], .t 50], qc 52 17 [.c (qu 8), qy [120], .t 51], qc 53 7 [.t 52], qm 43 53, qe 54 0 43, qe 55 1 43, qm 8 54, qm 9 55] (qa [qn 57 4 1, qc 58 16 [.c (qu 2), .c (.slice none 0 (some 0) 0)], .again 57 none (.load (some 4) (.t 1)), qo 59 (.buildSlice 4 2 [qu 0, .str [], .slice none 0 (some 0) 0, .slice none 0 (some 0) 0, qu 0, .str [], .slice none 0 (some 0) 0, .slice none 0 (some 0) 0] [(0, 4, .t 57), (4, 4, .t 58)]), qc 60 16 [.c (qu 14), .t 59], qo 61 (.buildSlice 4 1 [qu 0, .str [], .slice none 0 (some 0) 0, .slice none 0 (some 0) 0] [(0, 4, .t 60)]), qc 62 16 [.c (qu 10), .t 61], qc 63 7 [.t 62], qm 56 63, qe 64 0 56, qe 65 1 56, qm 10 64, qm 11 65] (.seq (qa [qm 66 7, qm 67 9, qv 68 .add 66 67, qm 69 11, qv 70 .add 68 69, qb 71 .neq (.t 70) (qx 0), qm 72 71, qh 73 72 false 6, qg 74 72 false (.bin .neq (.t 73) (qy [105, 102, 32, 80, 32, 116, 104, 101, 110, 32, 98, 111, 116, 104, 32, 81, 32, 97, 110, 100, 32, 110, 111, 116, 32, 82])), qp 75 72 74, qm 76 75, qh 77 76 false 8, qg 78 76 false (.bin .neq (.t 77) (qy [102, 111, 114, 32, 97, 108, 108, 32, 120, 32, 102, 111, 114, 32, 115, 111, 109, 101, 32, 121, 32, 82, 32, 111, 102, 32, 120, 32, 97, 110, 100, 32, 102, 32, 111, 102, 32, 121, 32, 97, 110, 100, 32, 97, 32, 99, 108, 111, 115, 101, 32, 99, 108, 111, 115, 101])), qp 79 76 78, qm 80 79, qh 81 80 false 10, qg 82 80 false (.bin .neq (.t 81) (qy [110, 101, 99, 101, 115, 115, 97, 114, 105, 108, 121, 32, 119, 104, 105, 108, 101, 32, 80, 32, 117, 110, 116, 105, 108, 32, 102, 97, 108, 115, 101])), qp 83 80 82] (.cond (.t 83) (qa [qk 0 (.bool false)] .ret) .skip)) (.seq (qa [qo 84 (.buildSlice 1 4 [.str [], .str [], .str [], .str []] [(0, 1, qy [98, 111, 116, 104, 32, 80, 32, 111, 114, 32, 81]), (1, 1, qy [105, 102, 32, 80, 32, 116, 104, 101, 110]), (2, 1, qy [80, 32, 81]), (3, 1, qy [])]), qo 85 (.len .slice (.t 84)), qk 86 (qi 0)] (.block 0 (.loop (qa [qv 87 .lss 86 85] (.seq (.cond (.t 87) .skip (.exit 0)) (.seq (.block 1 (qa [qm 88 86, qo 89 (.idxS 1 (.t 84) (.t 86)), ql 90 89, qm 12 88, qm 13 90] (qa [qm 92 13, qc 93 19 [.t 92], qm 91 93, qe 94 0 91, qe 95 1 91, qe 96 2 91, qo 14 (.alloc [qu 0, .str [], .slice none 0 (some 0) 0, .slice none 0 (some 0) 0]), qs 4 14 94, qm 15 95, qm 16 96] (qa [qm 97 15, qo 98 (.buildSlice 1 4 [qi 0, qi 0, qi 0, qi 0] [(0, 1, qx 2), (1, 1, qx 3), (2, 1, qx 1), (3, 1, qx 0)]), qm 99 12, qo 100 (.idxS 1 (.t 98) (.t 99)), ql 101 100, qv 102 .neq 97 101, qm 103 102, qh 104 103 false 16, qg 105 103 false (.bin .neq (.t 104) (qx 410)), qp 106 103 105] (.cond (.t 106) (qa [qk 0 (.bool false)] .ret) .skip))))) (.its [qb 107 .add (.t 86) (qx 1), qm 86 107]))))))) (qa [qn 109 4 1, qn 110 4 2, qo 111 (.buildSlice 4 1 [qu 0, .str [], .slice none 0 (some 0) 0, .slice none 0 (some 0) 0] [(0, 4, .t 110)]), qc 112 16 [.c (qu 3), .t 111], .again 109 none (.load (some 4) (.t 1)), qo 113 (.buildSlice 4 2 [qu 0, .str [], .slice none 0 (some 0) 0, .slice none 0 (some 0) 0, qu 0, .str [], .slice none 0 (some 0) 0, .slice none 0 (some 0) 0] [(0, 4, .t 109), (4, 4, .t 112)]), qc 114 16 [.c (qu 6), .t 113], qc 115 20 [.t 114], qm 108 115, qe 116 0 108, qe 117 1 108, qm 17 116, qm 7 117] (qa [qn 119 4 1, qn 120 4 5, qo 121 (.buildSlice 4 2 [qu 0, .str [], .slice none 0 (some 0) 0, .slice none 0 (some 0) 0, qu 0, .str [], .slice none 0 (some 0) 0, .slice none 0 (some 0) 0] [(0, 4, .t 119), (4, 4, .t 120)]), qn 122 4 2, qo 123 (.buildSlice 4 1 [qu 0, .str [], .slice none 0 (some 0) 0, .slice none 0 (some 0) 0] [(0, 4, .t 122)]), qo 124 (.build [.slice none 0 (some 0) 0, .slice none 0 (some 0) 0] [(0, 1, .t 121), (1, 1, .t 123)]), qc 125 21 [.t 124], qm 118 125, qe 126 0 118, qe 127 1 118, qm 18 126, qm 9 127] (qa [qn 129 4 2, qo 130 (.buildSlice 1 2 [.slice none 0 (some 0) 0, .slice none 0 (some 0) 0] [(0, 1, .c (.slice none 0 (some 0) 0)), (1, 1, .c (.slice none 0 (some 0) 0))]), qn 131 4 5, qn 133 4 1, qc 132 23 [qx 2, .t 131], .again 133 none (.load (some 4) (.t 1)), .again 130 none (.buildSlice 1 2 [.slice none 0 (some 0) 0, .slice none 0 (some 0) 0] [(0, 1, .c (.slice none 0 (some 0) 0)), (1, 1, .c (.slice none 0 (some 0) 0))]), .again 129 none (.load (some 4) (.t 2)), qc 134 23 [qx 1, .t 133], .again 130 none (.buildSlice 1 2 [.slice none 0 (some 0) 0, .slice none 0 (some 0) 0] [(0, 1, .c (.slice none 0 (some 0) 0)), (1, 1, .c (.slice none 0 (some 0) 0))]), .again 129 none (.load (some 4) (.t 2)), qo 135 (.buildSlice 8 2 [.str [], qu 0, .str [], .slice none 0 (some 0) 0, .slice none 0 (some 0) 0, qi 0, .slice none 0 (some 0) 0, .slice none 0 (some 0) 0, .str [], qu 0, .str [], .slice none 0 (some 0) 0, .slice none 0 (some 0) 0, qi 0, .slice none 0 (some 0) 0, .slice none 0 (some 0) 0] [(0, 8, .t 132), (8, 8, .t 134)]), qc 136 22 [qy [105, 109, 112, 69], .t 129, .t 130, .t 135], qc 137 6 [.t 136], qm 128 137, qe 138 0 128, qe 139 1 128, qm 19 138, qm 11 139] (qa [qo 141 (.buildSlice 1 2 [qi 0, qi 0] [(0, 1, qx 2), (1, 1, qx 0)]), qo 142 (.build [.str [], qi 0, qi 0] [(0, 1, qy [80]), (2, 1, qx 2)]), qo 143 (.buildSlice 3 1 [.str [], qi 0, qi 0] [(0, 3, .t 142)]), qo 144 (.build [qu 0, qi 0, .slice none 0 (some 0) 0, qi 0, .slice none 0 (some 0) 0, .slice none 0 (some 0) 0, .slice none 0 (some 0) 0] [(0, 1, .c (qu 4)), (1, 1, qx 2), (2, 1, .t 141), (4, 1, .t 143)]), qc 145 24 [.t 144], qm 140 145, qe 146 0 140, qe 147 1 140, qm 20 146, qm 21 147] (.seq (qa [qm 148 7, qm 149 9, qv 150 .add 148 149, qm 151 11, qv 152 .add 150 151, qm 153 21, qv 154 .add 152 153, qb 155 .neq (.t 154) (qx 0), qm 156 155, qh 157 156 false 18, qg 158 156 false (.bin .neq (.t 157) (qy [103, 105, 118, 101, 110, 32, 80, 44, 32, 103, 105, 118, 101, 110, 32, 105, 102, 32, 80, 32, 116, 104, 101, 110, 32, 81, 44, 32, 115, 104, 111, 119, 32, 81])), qp 159 156 158] (.cond (.t 159) (qa [qk 0 (.bool false)] .ret) .skip)) (qa [qm 160 17, qo 161 (.buildSlice 1 4 [.str [], .str [], .str [], .str []] [(0, 1, qy [108, 101, 118, 101, 108, 32, 48, 58, 32, 105, 102]), (1, 1, qy [108, 101, 118, 101, 108, 32, 49, 58, 32, 80]), (2, 1, qy [108, 101, 118, 101, 108, 32, 49, 58, 32, 110, 111, 116]), (3, 1, qy [108, 101, 118, 101, 108, 32, 50, 58, 32, 81])]), qc 162 25 [.t 160, .t 161], qm 163 162, qh 164 163 true 19, qg 165 163 true (.buildSlice 1 3 [.str [], .str [], .str []] [(0, 1, qy [49, 58, 32, 97, 115, 115, 117, 109, 101, 32, 50, 44, 32, 105, 102, 32, 80, 32, 116, 104, 101, 110, 32, 81]), (1, 1, qy [50, 58, 32, 97, 115, 115, 117, 109, 101, 32, 49, 44, 32, 80]), (2, 1, qy [51, 58, 32, 81, 44, 32, 98, 121, 32, 105, 109, 112, 69, 32, 102, 114, 111, 109, 32, 49, 44, 32, 50])]), .call (some 166) (some (163, true)) (.c (qf 25)) [.t 164, .t 165], qq 167 163 166, qm 168 167, qh 169 168 true 20, qg 170 168 true (.buildSlice 1 4 [.str [], .str [], .str [], .str []] [(0, 1, qy [50, 32, 119, 111, 114, 108, 100, 115]), (1, 1, qy [80, 32, 105, 115, 32, 116, 114, 117, 101, 32, 97, 116, 32, 49]), (2, 1, qy [48, 32, 115, 101, 101, 115, 32, 49]), (3, 1, qy [49, 32, 115, 101, 101, 115, 32, 110, 111, 116, 104, 105, 110, 103])]), .call (some 171) (some (168, true)) (.c (qf 25)) [.t 169, .t 170], qq 172 168 171, qm 0 172] .ret)))))))))))))⟩
theorem rf_law41_awake : resF Go.Proofs.Tryz.prog 4 = some i_law41_awake := by kernel_rfl
noncomputable def c43_0 : List It := [.op (some 28) (some (24, false)) (.un .not (.t 27)), .op (some 29) none (.pick (.t 24) (.c (.bool true)) (.t 28)), .op (some 30) none (.mv (.t 29)), .op (some 31) (some (30, false)) (.fieldAddr 6 (.t 3)), .op (some 32) (some (30, false)) (.load none (.t 31)), .op (some 33) (some (30, false)) (.len .slice (.t 32)), .op (some 34) (some (30, false)) (.bin .gtr (.t 33) (.c (.int .i64 4))), .op (some 35) none (.pick (.t 30) (.c (.bool true)) (.t 34)), .op (some 36) none (.mv (.t 35)), .op (some 37) (some (36, false)) (.fieldAddr 7 (.t 3)), .op (some 38) (some (36, false)) (.load none (.t 37)), .op (some 39) (some (36, false)) (.len .slice (.t 38)), .op (some 40) (some (36, false)) (.fieldAddr 6 (.t 3)), .op (some 41) (some (36, false)) (.load none (.t 40)), .op (some 42) (some (36, false)) (.len .slice (.t 41)), .op (some 43) (some (36, false)) (.bin .neq (.t 39) (.t 42)), .op (some 44) none (.pick (.t 36) (.c (.bool true)) (.t 43)), .op (some 15) none (.mv (.t 44))]
noncomputable def c43_1 : AC := .seq (.its ([.op (some 6) none (.mv (.c (.bool false)))])) .ret
noncomputable def c43_2 : List It := [.op (some 63) none (.pick (.t 58) (.t 62) (.c (.bool false))), .op (some 6) none (.mv (.t 63))]
noncomputable def c43_3 : AC := .seq (.its (.op (some 49) none (.fieldAddr 6 (.t 3)) :: .op (some 50) none (.load none (.t 49)) :: .op (some 51) none (.len .slice (.t 50)) :: .op (some 52) none (.bin .eql (.t 51) (.c (.int .i64 0))) :: .op (some 53) none (.mv (.t 52)) :: .op (some 54) (some (53, true)) (.fieldAddr 5 (.t 3)) :: .op (some 55) (some (53, true)) (.load none (.t 54)) :: .op (some 56) (some (53, true)) (.bin .neq (.t 55) (.c (.int .i64 0))) :: .op (some 57) none (.pick (.t 53) (.t 56) (.c (.bool false))) :: .op (some 58) none (.mv (.t 57)) :: .op (some 59) (some (58, true)) (.load none (.t 7)) :: .op (some 60) (some (58, true)) (.fieldAddr 5 (.t 3)) :: .op (some 61) (some (58, true)) (.load none (.t 60)) :: .call (some 62) (some (58, true)) (.t 59) [.t 61] :: c43_2)) .ret
noncomputable def c43_4 : AC := .seq (.its ([.op (some 68) none (.fieldAddr 6 (.t 3)), .op (some 69) none (.load none (.t 68)), .op (some 70) none (.len .slice (.t 69)), .op (some 71) none (.bin .eql (.t 70) (.c (.int .i64 0))), .op (some 72) none (.mv (.t 71)), .op (some 73) (some (72, true)) (.fieldAddr 5 (.t 3)), .op (some 74) (some (72, true)) (.load none (.t 73)), .op (some 75) (some (72, true)) (.bin .eql (.t 74) (.c (.int .i64 0))), .op (some 76) none (.pick (.t 72) (.t 75) (.c (.bool false))), .op (some 6) none (.mv (.t 76))])) .ret
noncomputable def c43_5 : List It := [.op (some 81) none (.un .not (.t 80)), .op (some 82) none (.mv (.t 81)), .op (some 83) (some (82, false)) (.fieldAddr 5 (.t 3)), .op (some 84) (some (82, false)) (.load none (.t 83)), .op (some 85) (some (82, false)) (.bin .neq (.t 84) (.c (.int .i64 0))), .op (some 86) none (.pick (.t 82) (.c (.bool true)) (.t 85)), .op (some 77) none (.mv (.t 86))]
noncomputable def c43_6 : AC := .seq (.its ([.op (some 6) none (.mv (.c (.bool false)))])) .ret
noncomputable def c43_7 : AC := .cond (.t 77) c43_6 .skip
noncomputable def c43_8 : AC := .seq (.its (.op (some 78) none (.fieldAddr 0 (.t 3)) :: .op (some 79) none (.load none (.t 78)) :: .call (some 80) none (.c (.func (.func n_describe_name) [] [])) [.t 79] :: c43_5)) c43_7
noncomputable def c43_9 : AC := .cond (.t 64) c43_4 c43_8
noncomputable def c43_10 : AC := .seq (.its ([.op (some 65) none (.fieldAddr 0 (.t 3)), .op (some 66) none (.load none (.t 65)), .op (some 67) none (.bin .eql (.t 66) (.c (.str [63]))), .op (some 64) none (.mv (.t 67))])) c43_9
noncomputable def c43_11 : AC := .cond (.t 45) c43_3 c43_10
noncomputable def c43_12 : AC := .seq (.its ([.op (some 46) none (.fieldAddr 0 (.t 3)), .op (some 47) none (.load none (.t 46)), .op (some 48) none (.bin .eql (.t 47) (.c (.str []))), .op (some 45) none (.mv (.t 48))])) c43_11
noncomputable def c43_13 : AC := .cond (.t 15) c43_1 c43_12
noncomputable def c43_14 : AC := .seq (.its (.op (some 16) none (.mv (.t 2)) :: .op (some 17) none (.nilCheck (.t 16)) :: .op (some 18) none (.load none (.t 17)) :: .op (some 19) none (.bin .lss (.t 18) (.c (.int .i64 0))) :: .op (some 20) none (.mv (.t 19)) :: .op (some 21) (some (20, false)) (.mv (.t 1)) :: .op (some 22) (some (20, false)) (.bin .gtr (.t 21) (.c (.int .i64 40))) :: .op (some 23) none (.pick (.t 20) (.c (.bool true)) (.t 22)) :: .op (some 24) none (.mv (.t 23)) :: .op (some 25) (some (24, false)) (.fieldAddr 1 (.t 3)) :: .op (some 26) (some (24, false)) (.load (some 4) (.t 25)) :: .call (some 27) (some (24, false)) (.c (.func (.func n_syntax_Right) [] [])) [.t 26] :: c43_0)) c43_13
noncomputable def c43_15 : List It := [.op (some 117) (some (111, false)) (.un .not (.t 116)), .op (some 118) none (.pick (.t 111) (.c (.bool true)) (.t 117))]
noncomputable def c43_16 : List It := .op (some 110) none (.pick (.t 102) (.c (.bool true)) (.t 109)) :: .op (some 111) none (.mv (.t 110)) :: .op (some 112) (some (111, false)) (.load (some 8) (.t 9)) :: .op (some 113) (some (111, false)) (.mv (.t 1)) :: .op (some 114) (some (111, false)) (.bin .add (.t 113) (.c (.int .i64 1))) :: .op (some 115) (some (111, false)) (.mv (.t 2)) :: .call (some 116) (some (111, false)) (.c (.func (.func n_describe_fits) [] [])) [.t 112, .t 114, .t 115] :: c43_15
noncomputable def c43_17 : AC := .seq (.its ([.op (some 6) none (.mv (.c (.bool false)))])) .ret
noncomputable def c43_18 : AC := .cond (.t 118) c43_17 .skip
noncomputable def c43_19 : AC := .seq (.its (.op (some 95) none (.fieldAddr 7 (.t 3)) :: .op (some 96) none (.load none (.t 95)) :: .op (some 97) none (.mv (.t 8)) :: .op (some 98) none (.idxS 1 (.t 96) (.t 97)) :: .op (some 99) none (.load none (.t 98)) :: .op (some 100) none (.len .slice (.t 99)) :: .op (some 101) none (.bin .gtr (.t 100) (.c (.int .i64 3))) :: .op (some 102) none (.mv (.t 101)) :: .op (some 103) (some (102, false)) (.fieldAddr 7 (.t 3)) :: .op (some 104) (some (102, false)) (.load none (.t 103)) :: .op (some 105) (some (102, false)) (.mv (.t 8)) :: .op (some 106) (some (102, false)) (.idxS 1 (.t 104) (.t 105)) :: .op (some 107) (some (102, false)) (.load none (.t 106)) :: .op (some 108) (some (102, false)) (.mkFunc (.func n_describe_fitsS2) [] [.t 7]) :: .call (some 109) (some (102, false)) (.c (.func (.func n_slices_ContainsFunc_int) [] [])) [.t 107, .t 108] :: c43_16)) c43_18
noncomputable def c43_20 : AC := .seq (.its ([.op (some 92) none (.mv (.t 90)), .op (some 93) none (.idxS 8 (.t 88) (.t 90)), .op (some 94) none (.load (some 8) (.t 93)), .op (some 9) none (.alloc [.str [], .int .u8 0, .str [], .slice none 0 (some 0) 0, .slice none 0 (some 0) 0, .int .i64 0, .slice none 0 (some 0) 0, .slice none 0 (some 0) 0]), .op (some 8) none (.mv (.t 92)), .op none none (.store 8 (.t 9) (.t 94))])) c43_19
noncomputable def c43_21 : AC := .its ([.op (some 119) none (.bin .add (.t 90) (.c (.int .i64 1))), .op (some 90) none (.mv (.t 119))])
noncomputable def c43_22 : AC := .seq (.block 2 c43_20) c43_21
noncomputable def c43_23 : AC := .seq (.cond (.t 91) .skip (.exit 1)) c43_22
noncomputable def c43_24 : AC := .seq (.its ([.op (some 91) none (.bin .lss (.t 90) (.t 89))])) c43_23
noncomputable def c43_25 : AC := .loop c43_24
noncomputable def c43_26 : AC := .block 1 c43_25
noncomputable def c43_27 : AC := .seq (.its ([.op (some 6) none (.mv (.c (.bool true)))])) .ret
noncomputable def c43_28 : AC := .seq (.seq (.its ([.op (some 87) none (.fieldAddr 6 (.t 3)), .op (some 88) none (.load none (.t 87)), .op (some 89) none (.len .slice (.t 88)), .op (some 90) none (.mv (.c (.int .i64 0)))])) c43_26) c43_27
noncomputable def c43_29 : AC := .seq (.block 0 c43_14) c43_28
noncomputable def c43_30 : AC := .seq (.its ([.op (some 7) none (.alloc [.nilFunc]), .op none none (.store 1 (.t 7) (.c (.func (.func n_describe_fitsS1) [] [])))])) c43_29
noncomputable def c43_31 : AC := .seq (.its ([.op (some 10) none (.mv (.t 2)), .op (some 11) none (.nilCheck (.t 10)), .op (some 12) none (.load none (.t 11)), .op (some 13) none (.bin .sub (.t 12) (.c (.int .i64 1))), .op (some 14) none (.nilCheck (.t 10)), .op none none (.store 1 (.t 14) (.t 13))])) c43_30
noncomputable def c43_32 : AC := .seq (.its ([.op (some 3) none (.box (.t 0)), .op (some 6) none (.mv (.c (.bool false)))])) c43_31
noncomputable def i_describe_fits : AFunc := ⟨120, [(6, none)], c43_32⟩
theorem rf_describe_fits : resF Go.Proofs.Tryz.prog n_describe_fits = some i_describe_fits := by kernel_rfl
noncomputable def c44_0 : List It := [.op (some 16) none (.len .slice (.t 15)), .op (some 17) none (.mv (.c (.int .i64 0)))]
noncomputable def c44_1 : List It := [.op (some 22) none (.mv (.t 24)), .op (some 25) none (.extract 0 (.t 22)), .op (some 26) none (.extract 1 (.t 22)), .op (some 7) none (.mv (.t 25)), .op (some 8) none (.mv (.t 26))]
noncomputable def c44_2 : AC := .seq (.its ([.op (some 29) none (.mv (.t 8)), .op (some 2) none (.mv (.c (.str []))), .op (some 3) none (.mv (.t 29))])) .ret
noncomputable def c44_3 : AC := .cond (.t 28) c44_2 .skip
noncomputable def c44_4 : AC := .its ([.op (some 9) none (.mv (.c (.str [103, 105, 118, 101, 110])))])
noncomputable def c44_5 : AC := .cond (.t 34) c44_4 .skip
noncomputable def c44_6 : List It := [.op (some 40) none (.buildSlice 1 1 [.str []] [(0, 1, .t 39)]), .op (some 41) none (.append 1 16 (.t 35) (.t 40)), .op (some 4) none (.mv (.t 41))]
noncomputable def c44_7 : AC := .its (.op (some 35) none (.mv (.t 4)) :: .op (some 36) none (.mv (.t 9)) :: .op (some 37) none (.mv (.t 7)) :: .op (some 38) none (.buildSlice 1 2 [.str [], .str []] [(0, 1, .t 36), (1, 1, .t 37)]) :: .call (some 39) none (.c (.func (.func n_describe_join) [] [])) [.t 38] :: c44_6)
noncomputable def c44_8 : AC := .seq (.seq (.its ([.op (some 30) none (.mv (.t 5)), .op (some 31) none (.fieldAddr 0 (.t 1)), .op (some 32) none (.load none (.t 31)), .op (some 33) none (.len .slice (.t 32)), .op (some 34) none (.bin .lss (.t 30) (.t 33))])) c44_5) c44_7
noncomputable def c44_9 : AC := .seq (.its ([.op (some 9) none (.mv (.c (.str [115, 104, 111, 119])))])) c44_8
noncomputable def c44_10 : AC := .seq (.seq (.its ([.op (some 27) none (.mv (.t 8)), .op (some 28) none (.bin .neq (.t 27) (.c (.int .i64 0)))])) c44_3) c44_9
noncomputable def c44_11 : AC := .seq (.its (.op (some 23) none (.load (some 4) (.t 6)) :: .call (some 24) none (.c (.func (.func n_describe_Form) [] [])) [.t 23] :: c44_1)) c44_10
noncomputable def c44_12 : AC := .seq (.its ([.op (some 19) none (.mv (.t 17)), .op (some 20) none (.idxS 4 (.t 15) (.t 17)), .op (some 21) none (.load (some 4) (.t 20)), .op (some 6) none (.alloc [.int .u8 0, .str [], .slice none 0 (some 0) 0, .slice none 0 (some 0) 0]), .op (some 5) none (.mv (.t 19)), .op none none (.store 4 (.t 6) (.t 21))])) c44_11
noncomputable def c44_13 : AC := .its ([.op (some 42) none (.bin .add (.t 17) (.c (.int .i64 1))), .op (some 17) none (.mv (.t 42))])
noncomputable def c44_14 : AC := .seq (.block 1 c44_12) c44_13
noncomputable def c44_15 : AC := .seq (.cond (.t 18) .skip (.exit 0)) c44_14
noncomputable def c44_16 : AC := .seq (.its ([.op (some 18) none (.bin .lss (.t 17) (.t 16))])) c44_15
noncomputable def c44_17 : AC := .loop c44_16
noncomputable def c44_18 : AC := .block 0 c44_17
noncomputable def c44_19 : List It := [.op (some 2) none (.mv (.t 44)), .op (some 3) none (.mv (.c (.int .i64 0)))]
noncomputable def c44_20 : AC := .seq (.its (.op (some 43) none (.mv (.t 4)) :: .call (some 44) none (.c (.func (.func n_strings_Join) [] [])) [.t 43, .c (.str [44, 32])] :: c44_19)) .ret
noncomputable def c44_21 : AC := .seq (.seq (.its (.op (some 10) none (.fieldAddr 0 (.t 1)) :: .op (some 11) none (.load none (.t 10)) :: .op (some 12) none (.fieldAddr 1 (.t 1)) :: .op (some 13) none (.load none (.t 12)) :: .op (some 14) none (.buildSlice 1 2 [.slice none 0 (some 0) 0, .slice none 0 (some 0) 0] [(0, 1, .t 11), (1, 1, .t 13)]) :: .call (some 15) none (.c (.func (.func n_slices_Concat_api_Form) [] [])) [.t 14] :: c44_0)) c44_18) c44_20
noncomputable def c44_22 : AC := .seq (.its ([.op (some 4) none (.mv (.c (.slice none 0 (some 0) 0)))])) c44_21
noncomputable def c44_23 : AC := .seq (.its ([.op (some 1) none (.box (.t 0)), .op (some 2) none (.mv (.c (.str []))), .op (some 3) none (.mv (.c (.int .i64 0)))])) c44_22
noncomputable def i_describe_Claim : AFunc := ⟨45, [(2, none), (3, none)], c44_23⟩
theorem rf_describe_Claim : resF Go.Proofs.Tryz.prog n_describe_Claim = some i_describe_Claim := by kernel_rfl
noncomputable def c45_0 : List It := [.op (some 5) none (.mv (.t 7)), .op (some 8) none (.extract 0 (.t 5)), .op (some 9) none (.extract 1 (.t 5)), .op (some 3) none (.mv (.t 8)), .op (some 4) none (.mv (.t 9))]
noncomputable def c45_1 : List It := [.op (some 2) none (.mv (.t 22))]
noncomputable def c45_2 : List It := .op (some 21) none (.buildSlice 1 2 [.str [], .str []] [(0, 1, .t 15), (1, 1, .t 20)]) :: .call (some 22) none (.c (.func (.func n_describe_join) [] [])) [.t 21] :: c45_1
noncomputable def c45_3 : AC := .seq (.its (.op (some 15) none (.mv (.t 3)) :: .op (some 16) none (.fieldAddr 3 (.t 1)) :: .op (some 17) none (.load none (.t 16)) :: .op (some 18) none (.idxS 4 (.t 17) (.c (.int .i64 0))) :: .op (some 19) none (.load (some 4) (.t 18)) :: .call (some 20) none (.c (.func (.func n_describe_text) [] [])) [.t 19] :: c45_2)) .ret
noncomputable def c45_4 : List It := [.op (some 2) none (.mv (.t 38))]
noncomputable def c45_5 : List It := .op (some 37) none (.buildSlice 1 4 [.str [], .str [], .str [], .str []] [(0, 1, .t 25), (1, 1, .t 30), (2, 1, .t 31), (3, 1, .t 36)]) :: .call (some 38) none (.c (.func (.func n_describe_join) [] [])) [.t 37] :: c45_4
noncomputable def c45_6 : List It := .again 35 none (.load (some 4) (.t 34)) :: .again 33 none (.load none (.t 32)) :: .call (some 36) none (.c (.func (.func n_describe_text) [] [])) [.t 35] :: c45_5
noncomputable def c45_7 : AC := .seq (.its (.op (some 25) none (.mv (.t 3)) :: .op (some 26) none (.fieldAddr 3 (.t 1)) :: .op (some 27) none (.load none (.t 26)) :: .op (some 28) none (.idxS 4 (.t 27) (.c (.int .i64 0))) :: .op (some 29) none (.load (some 4) (.t 28)) :: .op (some 31) none (.mv (.t 4)) :: .op (some 32) none (.fieldAddr 3 (.t 1)) :: .op (some 33) none (.load none (.t 32)) :: .op (some 34) none (.idxS 4 (.t 33) (.c (.int .i64 1))) :: .op (some 35) none (.load (some 4) (.t 34)) :: .call (some 30) none (.c (.func (.func n_describe_text) [] [])) [.t 29] :: c45_6)) .ret
noncomputable def c45_8 : AC := .cond (.t 23) c45_7 .skip
noncomputable def c45_9 : AC := .seq (.its ([.op (some 24) none (.bin .eql (.t 12) (.c (.int .i64 2))), .op (some 23) none (.mv (.t 24))])) c45_8
noncomputable def c45_10 : AC := .cond (.t 13) c45_3 c45_9
noncomputable def c45_11 : AC := .seq (.its ([.op (some 14) none (.bin .eql (.t 12) (.c (.int .i64 1))), .op (some 13) none (.mv (.t 14))])) c45_10
noncomputable def c45_12 : AC := .block 0 c45_11
noncomputable def c45_13 : AC := .seq (.its ([.op (some 39) none (.mv (.t 3)), .op (some 2) none (.mv (.t 39))])) .ret
noncomputable def c45_14 : AC := .seq (.seq (.its ([.op (some 10) none (.fieldAddr 3 (.t 1)), .op (some 11) none (.load none (.t 10)), .op (some 12) none (.len .slice (.t 11))])) c45_12) c45_13
noncomputable def c45_15 : AC := .seq (.its (.op (some 6) none (.load (some 4) (.t 1)) :: .call (some 7) none (.c (.func (.func n_describe_head) [] [])) [.t 6] :: c45_0)) c45_14
noncomputable def c45_16 : AC := .seq (.its ([.op (some 1) none (.box (.t 0)), .op (some 2) none (.mv (.c (.str [])))])) c45_15
noncomputable def i_describe_text : AFunc := ⟨40, [(2, none)], c45_16⟩
theorem rf_describe_text : resF Go.Proofs.Tryz.prog n_describe_text = some i_describe_text := by kernel_rfl
noncomputable def c46_0 : AC := .seq (.its ([.op (some 11) none (.mv (.t 0)), .op (some 4) none (.mv (.t 11))])) .ret
noncomputable def c46_1 : AC := .cond (.t 10) c46_0 .skip
noncomputable def c46_2 : List It := [.op (some 24) none (.buildSlice 1 1 [.str []] [(0, 1, .t 23)]), .op (some 25) none (.append 1 16 (.t 18) (.t 24)), .op (some 5) none (.mv (.t 25))]
noncomputable def c46_3 : AC := .its (.op (some 18) none (.mv (.t 5)) :: .op (some 19) none (.fieldAddr 1 (.t 7)) :: .op (some 20) none (.load none (.t 19)) :: .op (some 21) none (.fieldAddr 2 (.t 7)) :: .op (some 22) none (.load none (.t 21)) :: .call (some 23) none (.c (.func (.func n_describe_term) [] [])) [.t 20, .t 22] :: c46_2)
noncomputable def c46_4 : AC := .seq (.its ([.op (some 16) none (.idxS 3 (.t 12) (.t 14)), .op (some 17) none (.load (some 3) (.t 16)), .op (some 7) none (.alloc [.bool false, .str [], .slice none 0 (some 0) 0]), .op none none (.store 3 (.t 7) (.t 17))])) c46_3
noncomputable def c46_5 : AC := .its ([.op (some 26) none (.bin .add (.t 14) (.c (.int .i64 1))), .op (some 14) none (.mv (.t 26))])
noncomputable def c46_6 : AC := .seq (.block 1 c46_4) c46_5
noncomputable def c46_7 : AC := .seq (.cond (.t 15) .skip (.exit 0)) c46_6
noncomputable def c46_8 : AC := .seq (.its ([.op (some 15) none (.bin .lss (.t 14) (.t 13))])) c46_7
noncomputable def c46_9 : AC := .loop c46_8
noncomputable def c46_10 : AC := .block 0 c46_9
noncomputable def c46_11 : List It := [.op (some 4) none (.mv (.t 31))]
noncomputable def c46_12 : List It := .op (some 30) none (.buildSlice 1 4 [.str [], .str [], .str [], .str []] [(0, 1, .t 27), (1, 1, .c (.str [111, 102])), (2, 1, .t 29), (3, 1, .c (.str [99, 108, 111, 115, 101]))]) :: .call (some 31) none (.c (.func (.func n_describe_join) [] [])) [.t 30] :: c46_11
noncomputable def c46_13 : AC := .seq (.its (.op (some 27) none (.mv (.t 0)) :: .op (some 28) none (.mv (.t 5)) :: .call (some 29) none (.c (.func (.func n_strings_Join) [] [])) [.t 28, .c (.str [32, 97, 110, 100, 32])] :: c46_12)) .ret
noncomputable def c46_14 : AC := .seq (.seq (.its ([.op (some 12) none (.mv (.t 1)), .op (some 13) none (.len .slice (.t 12)), .op (some 14) none (.mv (.c (.int .i64 0)))])) c46_10) c46_13
noncomputable def c46_15 : AC := .seq (.its ([.op (some 5) none (.mv (.c (.slice none 0 (some 0) 0)))])) c46_14
noncomputable def c46_16 : AC := .seq (.seq (.its ([.op (some 8) none (.mv (.t 1)), .op (some 9) none (.len .slice (.t 8)), .op (some 10) none (.bin .eql (.t 9) (.c (.int .i64 0)))])) c46_1) c46_15
noncomputable def c46_17 : AC := .seq (.its ([.op (some 4) none (.mv (.c (.str [])))])) c46_16
noncomputable def i_describe_term : AFunc := ⟨32, [(4, none)], c46_17⟩
theorem rf_describe_term : resF Go.Proofs.Tryz.prog n_describe_term = some i_describe_term := by kernel_rfl
noncomputable def c47_0 : List It := [.op (some 10) none (.mv (.t 12)), .op (some 13) none (.extract 0 (.t 10)), .op (some 14) none (.extract 1 (.t 10)), .op (some 6) none (.mv (.t 13)), .op (some 7) none (.mv (.t 14))]
noncomputable def c47_1 : List It := [.again 15 none (.load none (.t 2)), .op (some 18) none (.bin .add (.c (.str [108, 101, 118, 101, 108, 32])) (.t 17)), .op (some 19) none (.bin .add (.t 18) (.c (.str [58, 32]))), .op (some 21) none (.bin .add (.t 19) (.t 20)), .op (some 22) none (.buildSlice 1 1 [.str []] [(0, 1, .t 21)]), .op (some 23) none (.append 1 16 (.t 15) (.t 22)), .op none none (.store 1 (.t 2) (.t 23))]
noncomputable def c47_2 : AC := .its ([.op (some 31) none (.load none (.t 3)), .op (some 32) none (.load (some 4) (.t 9)), .op (some 33) none (.mv (.t 1)), .op (some 34) none (.bin .add (.t 33) (.c (.int .i64 1))), .call (some 35) none (.t 31) [.t 32, .t 34]])
noncomputable def c47_3 : AC := .seq (.its ([.op (some 29) none (.idxS 4 (.t 25) (.t 27)), .op (some 30) none (.load (some 4) (.t 29)), .op (some 9) none (.alloc [.int .u8 0, .str [], .slice none 0 (some 0) 0, .slice none 0 (some 0) 0]), .op none none (.store 4 (.t 9) (.t 30))])) c47_2
noncomputable def c47_4 : AC := .its ([.op (some 36) none (.bin .add (.t 27) (.c (.int .i64 1))), .op (some 27) none (.mv (.t 36))])
noncomputable def c47_5 : AC := .seq (.block 1 c47_3) c47_4
noncomputable def c47_6 : AC := .seq (.cond (.t 28) .skip (.exit 0)) c47_5
noncomputable def c47_7 : AC := .seq (.its ([.op (some 28) none (.bin .lss (.t 27) (.t 26))])) c47_6
noncomputable def c47_8 : AC := .loop c47_7
noncomputable def c47_9 : AC := .block 0 c47_8
noncomputable def c47_10 : AC := .seq (.its ([.op (some 24) none (.fieldAddr 3 (.t 4)), .op (some 25) none (.load none (.t 24)), .op (some 26) none (.len .slice (.t 25)), .op (some 27) none (.mv (.c (.int .i64 0)))])) c47_9
noncomputable def c47_11 : AC := .seq (.its (.op (some 15) none (.load none (.t 2)) :: .op (some 16) none (.mv (.t 1)) :: .op (some 20) none (.mv (.t 6)) :: .call (some 17) none (.c (.func (.func n_strconv_Itoa) [] [])) [.t 16] :: c47_1)) c47_10
noncomputable def c47_12 : AC := .seq (.its (.op (some 11) none (.load (some 4) (.t 4)) :: .call (some 12) none (.c (.func (.func n_describe_head) [] [])) [.t 11] :: c47_0)) c47_11
noncomputable def c47_13 : AC := .seq (.its ([.op (some 4) none (.box (.t 0))])) c47_12
noncomputable def i_describe_OutlineS1 : AFunc := ⟨37, [], c47_13⟩
theorem rf_describe_OutlineS1 : resF Go.Proofs.Tryz.prog n_describe_OutlineS1 = some i_describe_OutlineS1 := by kernel_rfl
noncomputable def c48_0 : AC := .seq (.its ([.op (some 1) none (.build [.int .u8 0, .str [], .str []] [(0, 1, .c (.int .u8 2)), (1, 1, .c (.str [102, 97, 108, 115, 101])), (2, 1, .c (.str []))]), .op (some 2) none (.build [.int .u8 0, .str [], .str []] [(0, 1, .c (.int .u8 3)), (1, 1, .c (.str [110, 111, 116])), (2, 1, .c (.str []))]), .op (some 3) none (.build [.int .u8 0, .str [], .str []] [(0, 1, .c (.int .u8 10)), (1, 1, .c (.str [110, 101, 99, 101, 115, 115, 97, 114, 105, 108, 121])), (2, 1, .c (.str []))]), .op (some 4) none (.build [.int .u8 0, .str [], .str []] [(0, 1, .c (.int .u8 11)), (1, 1, .c (.str [112, 111, 115, 115, 105, 98, 108, 121])), (2, 1, .c (.str []))]), .op (some 5) none (.build [.int .u8 0, .str [], .str []] [(0, 1, .c (.int .u8 12)), (1, 1, .c (.str [110, 101, 120, 116])), (2, 1, .c (.str []))]), .op (some 6) none (.build [.int .u8 0, .str [], .str []] [(0, 1, .c (.int .u8 13)), (1, 1, .c (.str [97, 108, 119, 97, 121, 115])), (2, 1, .c (.str []))]), .op (some 7) none (.build [.int .u8 0, .str [], .str []] [(0, 1, .c (.int .u8 4)), (1, 1, .c (.str [98, 111, 116, 104])), (2, 1, .c (.str [97, 110, 100]))]), .op (some 8) none (.build [.int .u8 0, .str [], .str []] [(0, 1, .c (.int .u8 5)), (1, 1, .c (.str [101, 105, 116, 104, 101, 114])), (2, 1, .c (.str [111, 114]))]), .op (some 9) none (.build [.int .u8 0, .str [], .str []] [(0, 1, .c (.int .u8 6)), (1, 1, .c (.str [105, 102])), (2, 1, .c (.str [116, 104, 101, 110]))]), .op (some 10) none (.build [.int .u8 0, .str [], .str []] [(0, 1, .c (.int .u8 7)), (1, 1, .c (.str [97, 115])), (2, 1, .c (.str [115, 111]))]), .op (some 11) none (.build [.int .u8 0, .str [], .str []] [(0, 1, .c (.int .u8 14)), (1, 1, .c (.str [119, 104, 105, 108, 101])), (2, 1, .c (.str [117, 110, 116, 105, 108]))]), .op (some 12) none (.buildSlice 3 11 [.int .u8 0, .str [], .str [], .int .u8 0, .str [], .str [], .int .u8 0, .str [], .str [], .int .u8 0, .str [], .str [], .int .u8 0, .str [], .str [], .int .u8 0, .str [], .str [], .int .u8 0, .str [], .str [], .int .u8 0, .str [], .str [], .int .u8 0, .str [], .str [], .int .u8 0, .str [], .str [], .int .u8 0, .str [], .str []] [(0, 3, .t 1), (3, 3, .t 2), (6, 3, .t 3), (9, 3, .t 4), (12, 3, .t 5), (15, 3, .t 6), (18, 3, .t 7), (21, 3, .t 8), (24, 3, .t 9), (27, 3, .t 10), (30, 3, .t 11)]), .op (some 0) none (.mv (.t 12))])) .ret
noncomputable def c48_1 : AC := .seq (.its ([.op (some 0) none (.mv (.c (.slice none 0 (some 0) 0)))])) c48_0
noncomputable def i_describe_patterns : AFunc := ⟨13, [(0, none)], c48_1⟩
theorem rf_describe_patterns : resF Go.Proofs.Tryz.prog n_describe_patterns = some i_describe_patterns := by kernel_rfl
noncomputable def i_syntax_rows : AFunc := ⟨24, [(0, some (some 68))], qa [qo 0 (.alloc [.nilFunc, qi 0, qi 0, qi 0, .nilFunc, qi 0, qi 0, qi 0, .nilFunc, qi 0, qi 0, qi 0, .nilFunc, qi 0, qi 0, qi 0, .nilFunc, qi 0, qi 0, qi 0, .nilFunc, qi 0, qi 0, qi 0, .nilFunc, qi 0, qi 0, qi 0, .nilFunc, qi 0, qi 0, qi 0, .nilFunc, qi 0, qi 0, qi 0, .nilFunc, qi 0, qi 0, qi 0, .nilFunc, qi 0, qi 0, qi 0, .nilFunc, qi 0, qi 0, qi 0, .nilFunc, qi 0, qi 0, qi 0, .nilFunc, qi 0, qi 0, qi 0, .nilFunc, qi 0, qi 0, qi 0, .nilFunc, qi 0, qi 0, qi 0, .nilFunc, qi 0, qi 0, qi 0])] (qa [qo 4 (.build [.nilFunc, qi 0, qi 0, qi 0] [(0, 1, .c (qf 138)), (1, 1, qx 0), (2, 1, qx 1), (3, 1, qx 0)]), qo 5 (.build [.nilFunc, qi 0, qi 0, qi 0] [(0, 1, .c (qf 138)), (1, 1, qx 0), (2, 1, qx 2), (3, 1, qx 0)]), qo 6 (.build [.nilFunc, qi 0, qi 0, qi 0] [(0, 1, .c (qf 78)), (1, 1, qx 0), (2, 1, qx 1), (3, 1, qx 0)]), qo 1 (.alloc [.nilFunc, qi 0, qi 0, qi 0]), qo 2 (.alloc [.nilFunc, qi 0, qi 0, qi 0]), qo 3 (.alloc [.nilFunc, qi 0, qi 0, qi 0]), qs 4 1 4, qs 4 2 5, qs 4 3 6] (qa [qo 7 (.build [.nilFunc, qi 0, qi 0, qi 0] [(0, 1, .c (qf 81)), (1, 1, qx 4), (2, 1, qx 0), (3, 1, qx 0)]), qo 8 (.build [.nilFunc, qi 0, qi 0, qi 0] [(0, 1, .c (qf 138)), (1, 1, qx 0), (2, 1, qx 0), (3, 1, qx 0)]), qn 9 4 1, qn 10 4 1, qn 11 4 1, qn 12 4 1, qn 13 4 1, qn 14 4 2, qn 15 4 2, qn 16 4 2, qn 17 4 2, qn 18 4 2, qn 19 4 3, qn 20 4 3, qo 21 (.build [.nilFunc, qi 0, qi 0, qi 0] [(0, 1, .c (qf 139)), (1, 1, qx 0), (2, 1, qx 0), (3, 1, qx 1)]), qo 22 (.build [.nilFunc, qi 0, qi 0, qi 0] [(0, 1, .c (qf 139)), (1, 1, qx 2), (2, 1, qx 0), (3, 1, qx 1)]), qo 23 (.build [.nilFunc, qi 0, qi 0, qi 0, .nilFunc, qi 0, qi 0, qi 0, .nilFunc, qi 0, qi 0, qi 0, .nilFunc, qi 0, qi 0, qi 0, .nilFunc, qi 0, qi 0, qi 0, .nilFunc, qi 0, qi 0, qi 0, .nilFunc, qi 0, qi 0, qi 0, .nilFunc, qi 0, qi 0, qi 0, .nilFunc, qi 0, qi 0, qi 0, .nilFunc, qi 0, qi 0, qi 0, .nilFunc, qi 0, qi 0, qi 0, .nilFunc, qi 0, qi 0, qi 0, .nilFunc, qi 0, qi 0, qi 0, .nilFunc, qi 0, qi 0, qi 0, .nilFunc, qi 0, qi 0, qi 0, .nilFunc, qi 0, qi 0, qi 0, .nilFunc, qi 0, qi 0, qi 0] [(4, 4, .t 7), (8, 4, .t 8), (12, 4, .t 9), (40, 4, .t 10), (44, 4, .t 11), (48, 4, .t 12), (52, 4, .t 13), (16, 4, .t 14), (20, 4, .t 15), (24, 4, .t 16), (28, 4, .t 17), (56, 4, .t 18), (32, 4, .t 19), (36, 4, .t 20), (60, 4, .t 21), (64, 4, .t 22)]), qs 68 0 23] .ret))⟩
theorem rf_syntax_rows : resF Go.Proofs.Tryz.prog 100 = some i_syntax_rows := by kernel_rfl
noncomputable def c49_0 : List It := [.op (some 3) none (.mv (.t 8))]
noncomputable def c49_1 : List It := [.op (some 19) none (.max [.t 16, .t 18]), .op (some 3) none (.mv (.t 19))]
noncomputable def c49_2 : AC := .its (.op (some 16) none (.mv (.t 3)) :: .op (some 17) none (.load (some 4) (.t 5)) :: .call (some 18) none (.c (.func (.func n_syntax_Depth) [] [])) [.t 17] :: c49_1)
noncomputable def c49_3 : AC := .seq (.its ([.op (some 14) none (.idxS 4 (.t 10) (.t 12)), .op (some 15) none (.load (some 4) (.t 14)), .op (some 5) none (.alloc [.int .u8 0, .str [], .slice none 0 (some 0) 0, .slice none 0 (some 0) 0]), .op none none (.store 4 (.t 5) (.t 15))])) c49_2
noncomputable def c49_4 : AC := .its ([.op (some 20) none (.bin .add (.t 12) (.c (.int .i64 1))), .op (some 12) none (.mv (.t 20))])
noncomputable def c49_5 : AC := .seq (.block 1 c49_3) c49_4
noncomputable def c49_6 : AC := .seq (.cond (.t 13) .skip (.exit 0)) c49_5
noncomputable def c49_7 : AC := .seq (.its ([.op (some 13) none (.bin .lss (.t 12) (.t 11))])) c49_6
noncomputable def c49_8 : AC := .loop c49_7
noncomputable def c49_9 : AC := .block 0 c49_8
noncomputable def c49_10 : AC := .seq (.its ([.op (some 21) none (.mv (.t 3)), .op (some 22) none (.bin .add (.t 21) (.c (.int .i64 1))), .op (some 2) none (.mv (.t 22))])) .ret
noncomputable def c49_11 : AC := .seq (.seq (.its ([.op (some 9) none (.fieldAddr 3 (.t 1)), .op (some 10) none (.load none (.t 9)), .op (some 11) none (.len .slice (.t 10)), .op (some 12) none (.mv (.c (.int .i64 0)))])) c49_9) c49_10
noncomputable def c49_12 : AC := .seq (.its (.op (some 6) none (.fieldAddr 2 (.t 1)) :: .op (some 7) none (.load none (.t 6)) :: .call (some 8) none (.c (.func (.func n_syntax_high) [] [])) [.t 7] :: c49_0)) c49_11
noncomputable def c49_13 : AC := .seq (.its ([.op (some 1) none (.box (.t 0)), .op (some 2) none (.mv (.c (.int .i64 0)))])) c49_12
noncomputable def i_syntax_Depth : AFunc := ⟨23, [(2, none)], c49_13⟩
theorem rf_syntax_Depth : resF Go.Proofs.Tryz.prog n_syntax_Depth = some i_syntax_Depth := by kernel_rfl
noncomputable def c50_0 : AC := .seq (.its ([.op (some 17) none (.mv (.t 5)), .op (some 4) none (.mv (.t 17))])) .ret
noncomputable def c50_1 : AC := .cond (.t 16) c50_0 .skip
noncomputable def c50_2 : AC := .seq (.its ([.op (some 11) none (.mv (.t 1)), .op (some 12) none (.mv (.t 0)), .op (some 13) none (.mv (.t 5)), .op (some 14) none (.idxS 1 (.t 12) (.t 13)), .op (some 15) none (.load none (.t 14)), .call (some 16) none (.t 11) [.t 15]])) c50_1
noncomputable def c50_3 : AC := .seq (.its ([.op (some 10) none (.mv (.t 8)), .op (some 5) none (.mv (.t 10))])) c50_2
noncomputable def c50_4 : AC := .its ([.op (some 18) none (.bin .add (.t 8) (.c (.int .i64 1))), .op (some 8) none (.mv (.t 18))])
noncomputable def c50_5 : AC := .seq (.block 1 c50_3) c50_4
noncomputable def c50_6 : AC := .seq (.cond (.t 9) .skip (.exit 0)) c50_5
noncomputable def c50_7 : AC := .seq (.its ([.op (some 9) none (.bin .lss (.t 8) (.t 7))])) c50_6
noncomputable def c50_8 : AC := .loop c50_7
noncomputable def c50_9 : AC := .block 0 c50_8
noncomputable def c50_10 : AC := .seq (.its ([.op (some 4) none (.mv (.c (.int .i64 (-1))))])) .ret
noncomputable def c50_11 : AC := .seq (.seq (.its ([.op (some 6) none (.mv (.t 0)), .op (some 7) none (.len .slice (.t 6)), .op (some 8) none (.mv (.c (.int .i64 0)))])) c50_9) c50_10
noncomputable def c50_12 : AC := .seq (.its ([.op (some 4) none (.mv (.c (.int .i64 0)))])) c50_11
noncomputable def i_slices_IndexFunc_byte : AFunc := ⟨19, [(4, none)], c50_12⟩
theorem rf_slices_IndexFunc_byte : resF Go.Proofs.Tryz.prog n_slices_IndexFunc_byte = some i_slices_IndexFunc_byte := by kernel_rfl
noncomputable def i_holds_valuations_valid : AFunc := ⟨49, [(4, none)], qa [qo 2 (.box (.t 0)), qo 3 (.box (.t 1)), qk 4 (.bool false)] (qa [qn 8 7 3, qn 10 0 2, qn 11 7 3, qo 5 (.alloc [qu 0, qi 0, .slice none 0 (some 0) 0, qi 0, .slice none 0 (some 0) 0, .slice none 0 (some 0) 0, .slice none 0 (some 0) 0]), qc 9 197 [.t 8], .again 5 none (.alloc [qu 0, qi 0, .slice none 0 (some 0) 0, qi 0, .slice none 0 (some 0) 0, .slice none 0 (some 0) 0, .slice none 0 (some 0) 0]), .again 11 none (.load (some 7) (.t 3)), .again 10 none (.load (some 0) (.t 2)), qc 12 198 [.t 10, .t 11], .again 5 none (.alloc [qu 0, qi 0, .slice none 0 (some 0) 0, qi 0, .slice none 0 (some 0) 0, .slice none 0 (some 0) 0, .slice none 0 (some 0) 0]), qc 13 196 [.t 9, .t 12], .again 5 none (.alloc [qu 0, qi 0, .slice none 0 (some 0) 0, qi 0, .slice none 0 (some 0) 0, .slice none 0 (some 0) 0, .slice none 0 (some 0) 0]), qm 7 13, qe 14 0 7, qe 15 1 7, qs 7 5 14, qm 6 15] (qa [qm 16 6, qb 17 .eql (.t 16) (qx 0), qm 18 17, qg 19 18 true (.fieldAddr 1 (.t 3)), qg 20 18 true (.load none (.t 19)), qg 21 18 true (.bin .eql (.t 20) (qx 1)), qq 22 18 21, qm 23 22, qg 24 23 true (.fieldAddr 3 (.t 3)), qg 25 23 true (.load none (.t 24)), qg 26 23 true (.bin .eql (.t 25) (qx 0)), qq 27 23 26, qm 28 27, qg 29 28 true (.fieldAddr 2 (.t 3)), qg 30 28 true (.load none (.t 29)), qg 31 28 true (.len .slice (.t 30)), qg 32 28 true (.fieldAddr 5 (.t 3)), qg 33 28 true (.load none (.t 32)), qg 34 28 true (.len .slice (.t 33)), qg 35 28 true (.bin .add (.t 31) (.t 34)), qg 36 28 true (.fieldAddr 6 (.t 3)), qg 37 28 true (.load none (.t 36)), qg 38 28 true (.len .slice (.t 37)), qg 39 28 true (.bin .add (.t 35) (.t 38)), qg 40 28 true (.bin .eql (.t 39) (qx 0)), qq 41 28 40, qm 42 41, qg 43 42 true (.fieldAddr 4 (.t 3)), qg 44 42 true (.load none (.t 43)), qg 45 42 true (.fieldAddr 4 (.t 5)), qg 46 42 true (.load none (.t 45)), .call (some 47) (some (42, true)) (.c (qf 199)) [.t 44, .t 46], qq 48 42 47, qm 4 48] .ret))⟩
theorem rf_holds_valuations_valid : resF Go.Proofs.Tryz.prog 195 = some i_holds_valuations_valid := by kernel_rfl
noncomputable def c51_0 : List It := [.op (some 16) none (.bin .add (.c (.int .i64 1)) (.t 15)), .op (some 17) none (.max [.t 12, .t 16]), .op (some 3) none (.mv (.t 17))]
noncomputable def c51_1 : AC := .its (.op (some 12) none (.mv (.t 3)) :: .op (some 13) none (.fieldAddr 2 (.t 5)) :: .op (some 14) none (.load none (.t 13)) :: .call (some 15) none (.c (.func (.func n_syntax_high) [] [])) [.t 14] :: c51_0)
noncomputable def c51_2 : AC := .seq (.its ([.op (some 10) none (.idxS 3 (.t 6) (.t 8)), .op (some 11) none (.load (some 3) (.t 10)), .op (some 5) none (.alloc [.bool false, .str [], .slice none 0 (some 0) 0]), .op none none (.store 3 (.t 5) (.t 11))])) c51_1
noncomputable def c51_3 : AC := .its ([.op (some 18) none (.bin .add (.t 8) (.c (.int .i64 1))), .op (some 8) none (.mv (.t 18))])
noncomputable def c51_4 : AC := .seq (.block 1 c51_2) c51_3
noncomputable def c51_5 : AC := .seq (.cond (.t 9) .skip (.exit 0)) c51_4
noncomputable def c51_6 : AC := .seq (.its ([.op (some 9) none (.bin .lss (.t 8) (.t 7))])) c51_5
noncomputable def c51_7 : AC := .loop c51_6
noncomputable def c51_8 : AC := .block 0 c51_7
noncomputable def c51_9 : AC := .seq (.its ([.op (some 19) none (.mv (.t 3)), .op (some 2) none (.mv (.t 19))])) .ret
noncomputable def c51_10 : AC := .seq (.seq (.its ([.op (some 6) none (.mv (.t 0)), .op (some 7) none (.len .slice (.t 6)), .op (some 8) none (.mv (.c (.int .i64 0)))])) c51_8) c51_9
noncomputable def c51_11 : AC := .seq (.its ([.op (some 3) none (.mv (.c (.int .i64 0)))])) c51_10
noncomputable def c51_12 : AC := .seq (.its ([.op (some 2) none (.mv (.c (.int .i64 0)))])) c51_11
noncomputable def i_syntax_high : AFunc := ⟨20, [(2, none)], c51_12⟩
theorem rf_syntax_high : resF Go.Proofs.Tryz.prog n_syntax_high = some i_syntax_high := by kernel_rfl
noncomputable def i_describe_fact : AFunc := ⟨53, [(4, none)], qa [qo 2 (.box (.t 0)), qo 3 (.box (.t 1)), qk 4 (.str [])] (.seq (.block 0 (qa [qo 6 (.fieldAddr 0 (.t 2)), ql 7 6, qb 8 .neq (.t 7) (.c (qu 1)), qm 9 8, qg 10 9 true (.fieldAddr 0 (.t 2)), qg 11 9 true (.load none (.t 10)), qg 12 9 true (.bin .neq (.t 11) (.c (qu 2))), qq 13 9 12, qm 5 13] (.cond (.t 5) (qa [qo 14 (.fieldAddr 0 (.t 3)), ql 15 14, qo 16 (.fieldAddr 2 (.t 3)), ql 17 16, qc 18 49 [.t 17], .again 15 none (.load none (.t 14)), qo 19 (.buildSlice 1 3 [.str [], .str [], .str []] [(0, 1, .t 15), (1, 1, qy [105, 115, 32, 116, 114, 117, 101, 32, 97, 116]), (2, 1, .t 18)]), qc 20 29 [.t 19], qm 4 20] .ret) (qa [qo 22 (.fieldAddr 1 (.t 3)), ql 23 22, qb 24 .eql (.t 23) (qx 1), qm 21 24] (.cond (.t 21) (qa [qo 25 (.fieldAddr 0 (.t 3)), ql 26 25, qo 27 (.fieldAddr 2 (.t 3)), ql 28 27, qc 29 49 [.t 28], .again 26 none (.load none (.t 25)), qo 30 (.buildSlice 1 3 [.str [], .str [], .str []] [(0, 1, .t 26), (1, 1, qy [104, 111, 108, 100, 115, 32, 111, 102]), (2, 1, .t 29)]), qc 31 29 [.t 30], qm 4 31] .ret) (qa [qo 33 (.fieldAddr 1 (.t 3)), ql 34 33, qb 35 .eql (.t 34) (qx 2), qm 32 35] (.cond (.t 32) (qa [qo 36 (.fieldAddr 0 (.t 3)), ql 37 36, qo 38 (.fieldAddr 1 (.t 2)), ql 39 38, qo 40 (.fieldAddr 2 (.t 3)), ql 41 40, qc 42 88 [.t 39, .t 41], .again 37 none (.load none (.t 36)), qo 43 (.buildSlice 1 3 [.str [], .str [], .str []] [(0, 1, .t 37), (1, 1, qy [104, 111, 108, 100, 115, 32, 111, 102]), (2, 1, .t 42)]), qc 44 29 [.t 43], qm 4 44] .ret) .skip))))))) (qa [qo 45 (.fieldAddr 0 (.t 3)), ql 46 45, qo 47 (.fieldAddr 2 (.t 3)), ql 48 47, qb 49 .eql (.t 48) (qx 1), qc 50 89 [.t 49], .again 46 none (.load none (.t 45)), qo 51 (.buildSlice 1 3 [.str [], .str [], .str []] [(0, 1, .t 46), (1, 1, qy [105, 115]), (2, 1, .t 50)]), qc 52 29 [.t 51], qm 4 52] .ret))⟩
theorem rf_describe_fact : resF Go.Proofs.Tryz.prog 48 = some i_describe_fact := by kernel_rfl
noncomputable def i_describe_begin : AFunc := ⟨33, [(2, some (some 4)), (3, none)], qa [qo 1 (.box (.t 0)), qo 2 (.alloc [.nilFunc, .nilFunc, .nilFunc, .map none]), qk 3 .nilFunc] (qa [qo 4 (.alloc [qi 0]), qo 5 (.alloc [.bool false]), .op none none (.store 1 (.t 4) (qx 0)), .op none none (.store 1 (.t 5) (.c (.bool false)))] (qa [qo 9 .mkMap, qo 10 (.build [.nilFunc, .nilFunc, .nilFunc, .map none] [(3, 1, .t 9)]), qo 6 (.alloc [.nilFunc, .nilFunc, .nilFunc, .map none]), qs 4 6 10] (qa [qo 11 (.mkFunc (.func 70) [] [.t 5, .t 4, .t 1]), qo 12 (.fieldAddr 1 (.t 6)), qs 1 12 11] (qa [qo 13 (.mkFunc (.func 71) [] [.t 5]), qo 14 (.fieldAddr 2 (.t 6)), qs 1 14 13] (qa [qo 15 (.mkFunc (.func 72) [] [.t 5, .t 4, .t 1]), qo 16 (.fieldAddr 0 (.t 6)), qs 1 16 15] (.seq (qa [qc 17 73 [], qo 18 (.len .slice (.t 17)), qk 19 (qi 0)] (.block 0 (.loop (qa [qv 20 .lss 19 18] (.seq (.cond (.t 20) .skip (.exit 0)) (.seq (.block 1 (qa [qo 21 (.idxS 3 (.t 17) (.t 19)), qn 22 3 21, qo 8 (.alloc [qu 0, .str [], .str []]), qs 3 8 22] (.its [qo 23 (.fieldAddr 3 (.t 6)), ql 24 23, qo 25 (.fieldAddr 1 (.t 8)), ql 26 25, qo 27 (.mkFunc (.func 74) [] [.t 8]), .op none none (.mapSet .str (.t 24) (.t 26) (.t 27))]))) (.its [qb 28 .add (.t 19) (qx 1), qm 19 28]))))))) (qa [qo 29 (.fieldAddr 3 (.t 6)), ql 30 29, .op none none (.mapSet .str (.t 30) (qy [102, 111, 114]) (.c (qf 76)))] (qa [qn 31 4 6, qo 32 (.mkFunc (.func 79) [] [.t 4]), qs 4 2 31, qm 3 32] .ret))))))))⟩
theorem rf_describe_begin : resF Go.Proofs.Tryz.prog 41 = some i_describe_begin := by kernel_rfl
noncomputable def i_istrconv_small : AFunc := ⟨15, [(2, none)], qa [qk 2 (.str [])] (.seq (qa [qm 3 0, qb 4 .lss (.t 3) (qx 10)] (.cond (.t 4) (qa [qm 5 0, qm 6 0, qb 7 .add (.t 6) (qx 1), qo 8 (.sliceStr (qy [48, 49, 50, 51, 52, 53, 54, 55, 56, 57, 97, 98, 99, 100, 101, 102, 103, 104, 105, 106, 107, 108, 109, 110, 111, 112, 113, 114, 115, 116, 117, 118, 119, 120, 121, 122]) (some (.t 5)) (some (.t 7))), qm 2 8] .ret) .skip)) (qa [qm 9 0, qb 10 .mul (.t 9) (qx 2), qm 11 0, qb 12 .mul (.t 11) (qx 2), qb 13 .add (.t 12) (qx 2), qo 14 (.sliceStr (qy [48, 48, 48, 49, 48, 50, 48, 51, 48, 52, 48, 53, 48, 54, 48, 55, 48, 56, 48, 57, 49, 48, 49, 49, 49, 50, 49, 51, 49, 52, 49, 53, 49, 54, 49, 55, 49, 56, 49, 57, 50, 48, 50, 49, 50, 50, 50, 51, 50, 52, 50, 53, 50, 54, 50, 55, 50, 56, 50, 57, 51, 48, 51, 49, 51, 50, 51, 51, 51, 52, 51, 53, 51, 54, 51, 55, 51, 56, 51, 57, 52, 48, 52, 49, 52, 50, 52, 51, 52, 52, 52, 53, 52, 54, 52, 55, 52, 56, 52, 57, 53, 48, 53, 49, 53, 50, 53, 51, 53, 52, 53, 53, 53, 54, 53, 55, 53, 56, 53, 57, 54, 48, 54, 49, 54, 50, 54, 51, 54, 52, 54, 53, 54, 54, 54, 55, 54, 56, 54, 57, 55, 48, 55, 49, 55, 50, 55, 51, 55, 52, 55, 53, 55, 54, 55, 55, 55, 56, 55, 57, 56, 48, 56, 49, 56, 50, 56, 51, 56, 52, 56, 53, 56, 54, 56, 55, 56, 56, 56, 57, 57, 48, 57, 49, 57, 50, 57, 51, 57, 52, 57, 53, 57, 54, 57, 55, 57, 56, 57, 57]) (some (.t 10)) (some (.t 13))), qm 2 14] .ret))⟩
theorem rf_istrconv_small : resF Go.Proofs.Tryz.prog 107 = some i_istrconv_small := by kernel_rfl
noncomputable def c52_0 : List It := [.op (some 9) none (.un .not (.t 8))]
noncomputable def c52_1 : AC := .seq (.its ([.op (some 10) none (.mv (.t 0)), .op (some 4) none (.mv (.t 10)), .op (some 5) none (.mv (.c (.bool false)))])) .ret
noncomputable def c52_2 : AC := .cond (.t 9) c52_1 .skip
noncomputable def c52_3 : AC := .seq (.its ([.op (some 11) none (.mv (.t 0)), .op (some 12) none (.mv (.t 1)), .op (some 13) none (.len .str (.t 12)), .op (some 14) none (.sliceStr (.t 11) (some (.t 13)) none), .op (some 4) none (.mv (.t 14)), .op (some 5) none (.mv (.c (.bool true)))])) .ret
noncomputable def c52_4 : AC := .seq (.seq (.its (.op (some 6) none (.mv (.t 0)) :: .op (some 7) none (.mv (.t 1)) :: .call (some 8) none (.c (.func (.func n_stringslite_HasPrefix) [] [])) [.t 6, .t 7] :: c52_0)) c52_2) c52_3
noncomputable def c52_5 : AC := .seq (.its ([.op (some 4) none (.mv (.c (.str []))), .op (some 5) none (.mv (.c (.bool false)))])) c52_4
noncomputable def i_stringslite_CutPrefix : AFunc := ⟨15, [(4, none), (5, none)], c52_5⟩
theorem rf_stringslite_CutPrefix : resF Go.Proofs.Tryz.prog n_stringslite_CutPrefix = some i_stringslite_CutPrefix := by kernel_rfl
noncomputable def c53_0 : List It := [.op (some 6) none (.un .not (.t 5))]
noncomputable def c53_1 : AC := .seq (.its ([.op (some 2) none (.mv (.c (.str []))), .op (some 3) none (.mv (.c (.int .i64 2)))])) .ret
noncomputable def c53_2 : AC := .cond (.t 6) c53_1 .skip
noncomputable def c53_3 : List It := [.op (some 2) none (.mv (.t 8)), .op (some 3) none (.mv (.c (.int .i64 0)))]
noncomputable def c53_4 : AC := .seq (.its (.op (some 7) none (.load (some 4) (.t 1)) :: .call (some 8) none (.c (.func (.func n_describe_text) [] [])) [.t 7] :: c53_3)) .ret
noncomputable def c53_5 : AC := .seq (.seq (.its (.op (some 4) none (.load (some 4) (.t 1)) :: .call (some 5) none (.c (.func (.func n_syntax_Right) [] [])) [.t 4] :: c53_0)) c53_2) c53_4
noncomputable def c53_6 : AC := .seq (.its ([.op (some 1) none (.box (.t 0)), .op (some 2) none (.mv (.c (.str []))), .op (some 3) none (.mv (.c (.int .i64 0)))])) c53_5
noncomputable def i_describe_Form : AFunc := ⟨9, [(2, none), (3, none)], c53_6⟩
theorem rf_describe_Form : resF Go.Proofs.Tryz.prog n_describe_Form = some i_describe_Form := by kernel_rfl
noncomputable def c54_0 : List It := [.op (some 12) none (.pick (.t 9) (.c (.bool true)) (.t 11)), .op (some 2) none (.mv (.t 12))]
noncomputable def c54_1 : List It := .op (some 8) none (.pick (.t 5) (.c (.bool true)) (.t 7)) :: .op (some 9) none (.mv (.t 8)) :: .op (some 10) (some (9, false)) (.mv (.t 0)) :: .call (some 11) (some (9, false)) (.c (.func (.func n_syntax_digit) [] [])) [.t 10] :: c54_0
noncomputable def c54_2 : List It := .op (some 5) none (.mv (.t 4)) :: .op (some 6) (some (5, false)) (.mv (.t 0)) :: .call (some 7) (some (5, false)) (.c (.func (.func n_syntax_capital) [] [])) [.t 6] :: c54_1
noncomputable def c54_3 : AC := .seq (.its (.op (some 3) none (.mv (.t 0)) :: .call (some 4) none (.c (.func (.func n_syntax_small) [] [])) [.t 3] :: c54_2)) .ret
noncomputable def c54_4 : AC := .seq (.its ([.op (some 2) none (.mv (.c (.bool false)))])) c54_3
noncomputable def i_syntax_letter : AFunc := ⟨13, [(2, none)], c54_4⟩
theorem rf_syntax_letter : resF Go.Proofs.Tryz.prog n_syntax_letter = some i_syntax_letter := by kernel_rfl
noncomputable def i_describe_beginS5 : AFunc := ⟨21, [(2, some (some 4))], qa [qo 1 (.box (.t 0)), qo 2 (.alloc [qu 0, .str [], .slice none 0 (some 0) 0, .slice none 0 (some 0) 0])] (qa [qo 4 (.build [qu 0, .str [], .slice none 0 (some 0) 0, .slice none 0 (some 0) 0] [(0, 1, .c (qu 9))]), qo 3 (.alloc [qu 0, .str [], .slice none 0 (some 0) 0, .slice none 0 (some 0) 0]), qs 4 3 4] (.seq (qa [qo 5 (.fieldAddr 1 (.t 1)), ql 6 5, .call (some 7) none (.t 6) [qy [97, 108, 108]]] (.cond (.t 7) (.its [qo 8 (.fieldAddr 0 (.t 3)), .op none none (.store 1 (.t 8) (.c (qu 8)))]) .skip)) (qa [qo 9 (.fieldAddr 0 (.t 1)), ql 10 9, .call (some 11) none (.t 10) [.c (qf 77)]] (qa [qo 12 (.fieldAddr 0 (.t 1)), ql 13 12, .call (some 14) none (.t 13) [.c (qf 78)], qo 15 (.fieldAddr 1 (.t 3)), qs 1 15 14] (qa [qn 16 4 1, qc 17 42 [.t 16], qo 18 (.buildSlice 4 1 [qu 0, .str [], .slice none 0 (some 0) 0, .slice none 0 (some 0) 0] [(0, 4, .t 17)]), qo 19 (.fieldAddr 3 (.t 3)), qs 1 19 18] (qa [qn 20 4 3, qs 4 2 20] .ret))))))⟩
theorem rf_describe_beginS5 : resF Go.Proofs.Tryz.prog 76 = some i_describe_beginS5 := by kernel_rfl
noncomputable def i_truth_check : AFunc := ⟨32, [(2, none)], qa [qk 2 (qi 0)] (.seq (qa [qm 5 0, qo 6 (.len .slice (.t 5)), qb 7 .gtr (.t 6) (qx 12)] (.cond (.t 7) (qa [qk 2 (qi 5)] .ret) .skip)) (.seq (qa [qm 8 0, qo 9 (.len .slice (.t 8)), qk 10 (qi 0)] (.block 0 (.loop (qa [qv 11 .lss 10 9] (.seq (.cond (.t 11) .skip (.exit 0)) (.seq (.block 1 (qa [qm 12 10, qo 13 (.idxS 1 (.t 8) (.t 10)), ql 14 13, qm 3 12, qm 4 14] (qa [qm 15 4, qc 16 81 [.t 15], qo 17 (.un .not (.t 16)), qm 18 17, qh 19 18 false 3, qg 20 18 false (.bin .gtr (.t 19) (qx 0)), qh 21 18 false 20, qh 22 21 true 0, qh 23 21 true 3, qg 24 21 true (.bin .sub (.t 23) (qx 1)), qg 25 21 true (.idxS 1 (.t 22) (.t 24)), qg 26 21 true (.load none (.t 25)), qh 27 21 true 4, qg 28 21 true (.bin .geq (.t 26) (.t 27)), qg 29 18 false (.pick (.t 21) (.t 28) (.c (.bool false))), qp 30 18 29] (.cond (.t 30) (qa [qk 2 (qi 2)] .ret) .skip)))) (.its [qb 31 .add (.t 10) (qx 1), qm 10 31]))))))) (qa [qk 2 (qi 0)] .ret)))⟩
theorem rf_truth_check : resF Go.Proofs.Tryz.prog 200 = some i_truth_check := by kernel_rfl
noncomputable def i_describe_beginS3 : AFunc := ⟨30, [(5, none)], qa [qk 5 (.str [])] (.seq (qa [ql 6 1, qm 7 6, qg 8 7 false (.load none (.t 2)), qg 9 7 false (.load none (.t 3)), qg 10 7 false (.len .slice (.t 9)), qg 11 7 false (.bin .eql (.t 8) (.t 10)), qp 12 7 11, qm 13 12, qh 14 13 false 0, qg 15 13 false (.load none (.t 3)), qg 16 13 false (.load none (.t 2)), qg 17 13 false (.idxS 1 (.t 15) (.t 16)), qg 18 13 false (.load none (.t 17)), .call (some 19) (some (13, false)) (.t 14) [.t 18], qg 20 13 false (.un .not (.t 19)), qp 21 13 20, qs 1 1 21] (qa [ql 22 1] (.cond (.t 22) (qa [qk 5 (.str [])] .ret) .skip))) (qa [ql 23 2, qb 24 .add (.t 23) (qx 1), qs 1 2 24] (qa [ql 25 3, ql 26 2, qb 27 .sub (.t 26) (qx 1), qo 28 (.idxS 1 (.t 25) (.t 27)), ql 29 28, qm 5 29] .ret)))⟩
theorem rf_describe_beginS3 : resF Go.Proofs.Tryz.prog 72 = some i_describe_beginS3 := by kernel_rfl
noncomputable def c55_0 : List It := [.op (some 8) none (.bin .geq (.t 7) (.c (.int .i64 0))), .op (some 4) none (.mv (.t 8))]
noncomputable def c55_1 : AC := .seq (.its (.op (some 5) none (.mv (.t 0)) :: .op (some 6) none (.mv (.t 1)) :: .call (some 7) none (.c (.func (.func n_slices_IndexFunc_api_Term) [] [])) [.t 5, .t 6] :: c55_0)) .ret
noncomputable def c55_2 : AC := .seq (.its ([.op (some 4) none (.mv (.c (.bool false)))])) c55_1
noncomputable def i_slices_ContainsFunc_api_Term : AFunc := ⟨9, [(4, none)], c55_2⟩
theorem rf_slices_ContainsFunc_api_Term : resF Go.Proofs.Tryz.prog n_slices_ContainsFunc_api_Term = some i_slices_ContainsFunc_api_Term := by kernel_rfl
noncomputable def c56_0 : AC := .seq (.its ([.op (some 5) none (.load (some 4) (.t 3)), .op (some 6) none (.mv (.t 0)), .op (some 7) none (.build [.str [], .int .u8 0, .str [], .slice none 0 (some 0) 0, .slice none 0 (some 0) 0, .int .i64 0, .slice none 0 (some 0) 0, .slice none 0 (some 0) 0] [(1, 4, .t 5), (5, 1, .t 6)]), .op none none (.store 8 (.t 4) (.t 7))])) .ret
noncomputable def c56_1 : AC := .seq (.its ([.op (some 3) none (.box (.t 1)), .op (some 4) none (.alloc [.str [], .int .u8 0, .str [], .slice none 0 (some 0) 0, .slice none 0 (some 0) 0, .int .i64 0, .slice none 0 (some 0) 0, .slice none 0 (some 0) 0])])) c56_0
noncomputable def i_law41_leaf : AFunc := ⟨8, [(4, some (some 8))], c56_1⟩
theorem rf_law41_leaf : resF Go.Proofs.Tryz.prog n_law41_leaf = some i_law41_leaf := by kernel_rfl
noncomputable def i_strings_Builder_Grow : AFunc := ⟨25, [], qa [qm 4 0, qc 5 96 [.t 4]] (.seq (qa [qm 6 1, qb 7 .lss (.t 6) (qx 0)] (.cond (.t 7) (.its [qo 8 (.mkIface 9 (qy [115, 116, 114, 105, 110, 103, 115, 46, 66, 117, 105, 108, 100, 101, 114, 46, 71, 114, 111, 119, 58, 32, 110, 101, 103, 97, 116, 105, 118, 101, 32, 99, 111, 117, 110, 116])), .op none none .fail]) .skip)) (qa [qm 9 0, qo 10 (.nilCheck (.t 9)), qo 11 (.fieldAddr 1 (.t 10)), ql 12 11, qo 13 (.cap (.t 12)), qm 14 0, qo 15 (.nilCheck (.t 14)), qo 16 (.fieldAddr 1 (.t 15)), ql 17 16, qo 18 (.len .slice (.t 17)), qv 19 .sub 13 18, qm 20 1, qv 21 .lss 19 20] (.cond (.t 21) (.its [qm 22 0, qm 23 1, qc 24 97 [.t 22, .t 23]]) .skip)))⟩
theorem rf_strings_Builder_Grow : resF Go.Proofs.Tryz.prog 55 = some i_strings_Builder_Grow := by kernel_rfl
noncomputable def c57_0 : List It := [.op (some 8) none (.bin .geq (.t 7) (.c (.int .i64 0))), .op (some 4) none (.mv (.t 8))]
noncomputable def c57_1 : AC := .seq (.its (.op (some 5) none (.mv (.t 0)) :: .op (some 6) none (.mv (.t 1)) :: .call (some 7) none (.c (.func (.func n_slices_IndexFunc_int) [] [])) [.t 5, .t 6] :: c57_0)) .ret
noncomputable def c57_2 : AC := .seq (.its ([.op (some 4) none (.mv (.c (.bool false)))])) c57_1
noncomputable def i_slices_ContainsFunc_int : AFunc := ⟨9, [(4, none)], c57_2⟩
theorem rf_slices_ContainsFunc_int : resF Go.Proofs.Tryz.prog n_slices_ContainsFunc_int = some i_slices_ContainsFunc_int := by kernel_rfl
noncomputable def i_holds_kinds : AFunc := ⟨15, [(2, some (some 6))], qa [qo 2 (.alloc [.nilIface, .nilIface, .nilIface, .nilIface, .nilIface, .nilIface])] (qa [qo 3 (.build [] []), qo 4 (.mkIface 212 (.t 3)), qo 5 (.build [] []), qo 6 (.mkIface 213 (.t 5)), qo 7 (.build [qu 0, qu 0] [(0, 1, .c (qu 3)), (1, 1, .c (qu 0))]), qo 8 (.mkIface 215 (.t 7)), qm 9 0, qo 10 (.build [qu 0, qu 0] [(0, 1, .c (qu 4)), (1, 1, .t 9)]), qo 11 (.mkIface 215 (.t 10)), qo 12 (.build [] []), qo 13 (.mkIface 216 (.t 12)), qo 14 (.build [.nilIface, .nilIface, .nilIface, .nilIface, .nilIface, .nilIface] [(0, 1, .c .nilIface), (1, 1, .t 4), (2, 1, .t 6), (3, 1, .t 8), (4, 1, .t 11), (5, 1, .t 13)]), qs 6 2 14] .ret)⟩
theorem rf_holds_kinds : resF Go.Proofs.Tryz.prog 128 = some i_holds_kinds := by kernel_rfl
noncomputable def i_holds_names : AFunc := ⟨20, [(2, none)], qa [qo 1 (.box (.t 0)), qk 2 (.slice none 0 (some 0) 0)] (qa [qk 3 (.slice none 0 (some 0) 0)] (.seq (qa [qo 6 (.fieldAddr 4 (.t 1)), ql 7 6, qo 8 (.len .slice (.t 7)), qk 9 (qi 0)] (.block 0 (.loop (qa [qv 10 .lss 9 8] (.seq (.cond (.t 10) .skip (.exit 0)) (.seq (.block 1 (qa [qo 11 (.idxS 3 (.t 7) (.t 9)), qn 12 3 11, qo 5 (.alloc [.str [], qi 0, qi 0]), qs 3 5 12] (.its [qm 13 3, qo 14 (.fieldAddr 0 (.t 5)), ql 15 14, qo 16 (.buildSlice 1 1 [.str []] [(0, 1, .t 15)]), qo 17 (.append 1 16 (.t 13) (.t 16)), qm 3 17]))) (.its [qb 18 .add (.t 9) (qx 1), qm 9 18]))))))) (qa [qm 19 3, qm 2 19] .ret)))⟩
theorem rf_holds_names : resF Go.Proofs.Tryz.prog 197 = some i_holds_names := by kernel_rfl
noncomputable def c58_0 : AC := .seq (.its ([.op (some 3) none (.mv (.t 0)), .op (some 4) none (.bin .geq (.t 3) (.c (.int .u8 97))), .op (some 5) none (.mv (.t 4)), .op (some 6) (some (5, true)) (.mv (.t 0)), .op (some 7) (some (5, true)) (.bin .leq (.t 6) (.c (.int .u8 116))), .op (some 8) none (.pick (.t 5) (.t 7) (.c (.bool false))), .op (some 2) none (.mv (.t 8))])) .ret
noncomputable def c58_1 : AC := .seq (.its ([.op (some 2) none (.mv (.c (.bool false)))])) c58_0
noncomputable def i_syntax_FunctionS1 : AFunc := ⟨9, [(2, none)], c58_1⟩
theorem rf_syntax_FunctionS1 : resF Go.Proofs.Tryz.prog n_syntax_FunctionS1 = some i_syntax_FunctionS1 := by kernel_rfl
noncomputable def c59_0 : AC := .seq (.its ([.op (some 3) none (.mv (.t 0)), .op (some 4) none (.bin .geq (.t 3) (.c (.int .u8 65))), .op (some 5) none (.mv (.t 4)), .op (some 6) (some (5, true)) (.mv (.t 0)), .op (some 7) (some (5, true)) (.bin .leq (.t 6) (.c (.int .u8 90))), .op (some 8) none (.pick (.t 5) (.t 7) (.c (.bool false))), .op (some 2) none (.mv (.t 8))])) .ret
noncomputable def c59_1 : AC := .seq (.its ([.op (some 2) none (.mv (.c (.bool false)))])) c59_0
noncomputable def i_syntax_capital : AFunc := ⟨9, [(2, none)], c59_1⟩
theorem rf_syntax_capital : resF Go.Proofs.Tryz.prog n_syntax_capital = some i_syntax_capital := by kernel_rfl
noncomputable def i_cmp_Compare_string : AFunc := ⟨20, [(4, none)], qa [qk 4 (qi 0)] (qa [qm 7 0, qc 8 236 [.t 7], qm 5 8] (qa [qm 9 1, qc 10 236 [.t 9], qm 6 10] (.seq (qa [qm 11 5] (.cond (.t 11) (.seq (qa [qm 12 6] (.cond (.t 12) (qa [qk 4 (qi 0)] .ret) .skip)) (qa [qk 4 (qi (-1))] .ret)) .skip)) (.seq (qa [qm 13 6] (.cond (.t 13) (qa [qk 4 (qi 1)] .ret) .skip)) (.seq (qa [qm 14 0, qm 15 1, qv 16 .lss 14 15] (.cond (.t 16) (qa [qk 4 (qi (-1))] .ret) .skip)) (.seq (qa [qm 17 0, qm 18 1, qv 19 .gtr 17 18] (.cond (.t 19) (qa [qk 4 (qi 1)] .ret) .skip)) (qa [qk 4 (qi 0)] .ret)))))))⟩
theorem rf_cmp_Compare_string : resF Go.Proofs.Tryz.prog 230 = some i_cmp_Compare_string := by kernel_rfl
noncomputable def c60_0 : List It := [.op (some 2) none (.mv (.t 4))]
noncomputable def c60_1 : AC := .seq (.its (.op (some 3) none (.mv (.t 0)) :: .call (some 4) none (.c (.func (.func n_syntax_name) [] [])) [.t 3, .c (.func (.func n_syntax_FunctionS1) [] []), .c (.func (.func n_syntax_letter) [] [])] :: c60_0)) .ret
noncomputable def c60_2 : AC := .seq (.its ([.op (some 2) none (.mv (.c (.bool false)))])) c60_1
noncomputable def i_syntax_Function : AFunc := ⟨5, [(2, none)], c60_2⟩
theorem rf_syntax_Function : resF Go.Proofs.Tryz.prog n_syntax_Function = some i_syntax_Function := by kernel_rfl
noncomputable def i_trace_ValidS1 : AFunc := ⟨20, [(3, none)], qa [qo 2 (.box (.t 0)), qk 3 (.bool false)] (qa [qo 4 (.fieldAddr 1 (.t 2)), ql 5 4, qb 6 .neq (.t 5) (qx 0), qm 7 6, qg 8 7 false (.fieldAddr 2 (.t 2)), qg 9 7 false (.load none (.t 8)), qg 10 7 false (.bin .lss (.t 9) (qx 0)), qp 11 7 10, qm 12 11, qg 13 12 false (.fieldAddr 2 (.t 2)), qg 14 12 false (.load none (.t 13)), qg 15 12 false (.fieldAddr 1 (.t 1)), qg 16 12 false (.load none (.t 15)), qg 17 12 false (.bin .shl (qx 1) (.t 16)), qg 18 12 false (.bin .geq (.t 14) (.t 17)), qp 19 12 18, qm 3 19] .ret)⟩
theorem rf_trace_ValidS1 : resF Go.Proofs.Tryz.prog 273 = some i_trace_ValidS1 := by kernel_rfl
noncomputable def c61_0 : List It := [.op (some 4) none (.mv (.t 7))]
noncomputable def c61_1 : AC := .seq (.its (.op (some 5) none (.mv (.t 0)) :: .op (some 6) none (.mv (.t 1)) :: .call (some 7) none (.c (.func (.func n_strings_genSplit) [] [])) [.t 5, .t 6, .c (.int .i64 0), .c (.int .i64 (-1))] :: c61_0)) .ret
noncomputable def c61_2 : AC := .seq (.its ([.op (some 4) none (.mv (.c (.slice none 0 (some 0) 0)))])) c61_1
noncomputable def i_strings_Split : AFunc := ⟨8, [(4, none)], c61_2⟩
theorem rf_strings_Split : resF Go.Proofs.Tryz.prog n_strings_Split = some i_strings_Split := by kernel_rfl
noncomputable def i_slices_IndexFunc_api_Bind : AFunc := ⟨19, [(4, none)], qa [qk 4 (qi 0)] (.seq (qa [qm 6 0, qo 7 (.len .slice (.t 6)), qk 8 (qi 0)] (.block 0 (.loop (qa [qv 9 .lss 8 7] (.seq (.cond (.t 9) .skip (.exit 0)) (.seq (.block 1 (qa [qm 10 8, qm 5 10] (qa [qm 11 1, qm 12 0, qm 13 5, qo 14 (.idxS 2 (.t 12) (.t 13)), qn 15 2 14, .call (some 16) none (.t 11) [.t 15]] (.cond (.t 16) (qa [qm 17 5, qm 4 17] .ret) .skip)))) (.its [qb 18 .add (.t 8) (qx 1), qm 8 18]))))))) (qa [qk 4 (qi (-1))] .ret))⟩
theorem rf_slices_IndexFunc_api_Bind : resF Go.Proofs.Tryz.prog 233 = some i_slices_IndexFunc_api_Bind := by kernel_rfl
noncomputable def c62_0 : List It := [.op (some 7) none (.un .not (.t 6)), .op (some 3) none (.mv (.t 7))]
noncomputable def c62_1 : AC := .seq (.its (.op (some 4) none (.load none (.t 1)) :: .op (some 5) none (.mv (.t 0)) :: .call (some 6) none (.t 4) [.t 5] :: c62_0)) .ret
noncomputable def c62_2 : AC := .seq (.its ([.op (some 3) none (.mv (.c (.bool false)))])) c62_1
noncomputable def i_describe_fitsS2 : AFunc := ⟨8, [(3, none)], c62_2⟩
theorem rf_describe_fitsS2 : resF Go.Proofs.Tryz.prog n_describe_fitsS2 = some i_describe_fitsS2 := by kernel_rfl
noncomputable def i_describe_beginS1 : AFunc := ⟨22, [(5, none)], qa [qk 5 (.bool false)] (qa [ql 6 1, qo 7 (.un .not (.t 6)), qm 8 7, qg 9 8 true (.load none (.t 2)), qg 10 8 true (.load none (.t 3)), qg 11 8 true (.len .slice (.t 10)), qg 12 8 true (.bin .lss (.t 9) (.t 11)), qq 13 8 12, qm 14 13, qg 15 14 true (.load none (.t 3)), qg 16 14 true (.load none (.t 2)), qg 17 14 true (.idxS 1 (.t 15) (.t 16)), qg 18 14 true (.load none (.t 17)), qh 19 14 true 0, qg 20 14 true (.bin .eql (.t 18) (.t 19)), qq 21 14 20, qm 5 21] .ret)⟩
theorem rf_describe_beginS1 : resF Go.Proofs.Tryz.prog 70 = some i_describe_beginS1 := by kernel_rfl
noncomputable def c63_0 : AC := .seq (.its ([.op (some 3) none (.mv (.t 0)), .op (some 4) none (.build [.bool false, .str [], .slice none 0 (some 0) 0] [(0, 1, .c (.bool true)), (1, 1, .t 3)]), .op none none (.store 3 (.t 2) (.t 4))])) .ret
noncomputable def c63_1 : AC := .seq (.its ([.op (some 2) none (.alloc [.bool false, .str [], .slice none 0 (some 0) 0])])) c63_0
noncomputable def i_law30_variable : AFunc := ⟨5, [(2, some (some 3))], c63_1⟩
theorem rf_law30_variable : resF Go.Proofs.Tryz.prog n_law30_variable = some i_law30_variable := by kernel_rfl
noncomputable def c64_0 : AC := .seq (.its ([.op (some 3) none (.mv (.t 0)), .op (some 4) none (.bin .mul (.t 3) (.c (.int .i64 78913))), .op (some 5) none (.bin .shr (.t 4) (.c (.int .u64 18))), .op (some 2) none (.mv (.t 5))])) .ret
noncomputable def c64_1 : AC := .seq (.its ([.op (some 2) none (.mv (.c (.int .i64 0)))])) c64_0
noncomputable def i_istrconv_log10Pow2 : AFunc := ⟨6, [(2, none)], c64_1⟩
theorem rf_istrconv_log10Pow2 : resF Go.Proofs.Tryz.prog n_istrconv_log10Pow2 = some i_istrconv_log10Pow2 := by kernel_rfl
noncomputable def c65_0 : List It := [.op (some 2) none (.mv (.t 4))]
noncomputable def c65_1 : AC := .seq (.its (.op (some 3) none (.mv (.t 0)) :: .call (some 4) none (.c (.func (.func n_istrconv_FormatInt) [] [])) [.t 3, .c (.int .i64 10)] :: c65_0)) .ret
noncomputable def c65_2 : AC := .seq (.its ([.op (some 2) none (.mv (.c (.str [])))])) c65_1
noncomputable def i_istrconv_Itoa : AFunc := ⟨5, [(2, none)], c65_2⟩
theorem rf_istrconv_Itoa : resF Go.Proofs.Tryz.prog n_istrconv_Itoa = some i_istrconv_Itoa := by kernel_rfl
noncomputable def i_strings_Builder_WriteString : AFunc := ⟨19, [(4, none), (5, none)], qa [qk 4 (qi 0), qk 5 .nilIface] (qa [qm 6 0, qc 7 96 [.t 6]] (qa [qm 8 0, qm 9 0, qo 10 (.nilCheck (.t 9)), qo 11 (.fieldAddr 1 (.t 10)), ql 12 11, qm 13 1, qo 14 (.append 1 1 (.t 12) (.t 13)), qo 15 (.nilCheck (.t 8)), qo 16 (.fieldAddr 1 (.t 15)), qs 1 16 14] (qa [qm 17 1, qo 18 (.len .str (.t 17)), qm 4 18, qk 5 .nilIface] .ret)))⟩
theorem rf_strings_Builder_WriteString : resF Go.Proofs.Tryz.prog 56 = some i_strings_Builder_WriteString := by kernel_rfl
noncomputable def i_cmp_Or_int : AFunc := ⟨18, [(2, none)], qa [qk 2 (qi 0)] (qa [qk 3 (qi 0)] (.seq (qa [qm 6 0, qo 7 (.len .slice (.t 6)), qk 8 (qi 0)] (.block 0 (.loop (qa [qv 9 .lss 8 7] (.seq (.cond (.t 9) .skip (.exit 0)) (.seq (.block 1 (qa [qo 10 (.idxS 1 (.t 6) (.t 8)), ql 11 10, qm 5 11] (qa [qm 12 5, qm 13 3, qv 14 .neq 12 13] (.cond (.t 14) (qa [qm 15 5, qm 2 15] .ret) .skip)))) (.its [qb 16 .add (.t 8) (qx 1), qm 8 16]))))))) (qa [qm 17 3, qm 2 17] .ret)))⟩
theorem rf_cmp_Or_int : resF Go.Proofs.Tryz.prog 234 = some i_cmp_Or_int := by kernel_rfl
noncomputable def i_holds_worlds_valid : AFunc := ⟨14, [(4, none)], qa [qo 2 (.box (.t 0)), qo 3 (.box (.t 1)), qk 4 (.bool false)] (qa [qn 5 7 3, qc 6 245 [.t 5], qm 7 6, qg 8 7 true (.fieldAddr 2 (.t 3)), qg 9 7 true (.load none (.t 8)), qg 10 7 true (.fieldAddr 1 (.t 2)), qg 11 7 true (.load none (.t 10)), .call (some 12) (some (7, true)) (.c (qf 246)) [.t 9, .t 11], qq 13 7 12, qm 4 13] .ret)⟩
theorem rf_holds_worlds_valid : resF Go.Proofs.Tryz.prog 244 = some i_holds_worlds_valid := by kernel_rfl
noncomputable def i_frame_Fits : AFunc := ⟨18, [(4, none)], qa [qk 4 (.bool false)] (qa [qm 5 0, qc 6 247 [.t 5], qm 7 6, qh 8 7 true 1, qg 9 7 true (.bin .leq (.t 8) (.c (qu 7))), qq 10 7 9, qm 11 10, qh 12 11 true 0, .call (some 13) (some (11, true)) (.c (qf 255)) [.t 12], qh 14 11 true 1, .call (some 15) (some (11, true)) (.c (qf 254)) [.t 13, .t 14], qg 16 11 true (.un .not (.t 15)), qq 17 11 16, qm 4 17] .ret)⟩
theorem rf_frame_Fits : resF Go.Proofs.Tryz.prog 246 = some i_frame_Fits := by kernel_rfl
noncomputable def i_slices_Clone_int : AFunc := ⟨8, [(2, none)], qa [qk 2 (.slice none 0 (some 0) 0)] (.seq (qa [qm 3 0, qo 4 (.eq (.nilOf .slice) false (.t 3) (.c (.slice none 0 (some 0) 0)))] (.cond (.t 4) (qa [qk 2 (.slice none 0 (some 0) 0)] .ret) .skip)) (qa [qo 5 (.buildSlice 1 0 [] []), qm 6 0, qo 7 (.append 1 8 (.t 5) (.t 6)), qm 2 7] .ret))⟩
theorem rf_slices_Clone_int : resF Go.Proofs.Tryz.prog 255 = some i_slices_Clone_int := by kernel_rfl
noncomputable def i_frame_relationS1 : AFunc := ⟨13, [(3, none)], qa [qk 3 (.bool false)] (qa [qm 4 0, qb 5 .lss (.t 4) (qx 0), qm 6 5, qh 7 6 false 0, qg 8 6 false (.load none (.t 1)), qg 9 6 false (.len .slice (.t 8)), qg 10 6 false (.bin .shl (qx 1) (.t 9)), qg 11 6 false (.bin .geq (.t 7) (.t 10)), qp 12 6 11, qm 3 12] .ret)⟩
theorem rf_frame_relationS1 : resF Go.Proofs.Tryz.prog 256 = some i_frame_relationS1 := by kernel_rfl
noncomputable def i_law41_atom : AFunc := ⟨8, [(4, some (some 4))], qa [qo 4 (.alloc [qu 0, .str [], .slice none 0 (some 0) 0, .slice none 0 (some 0) 0])] (qa [qm 5 0, qm 6 1, qo 7 (.build [qu 0, .str [], .slice none 0 (some 0) 0, .slice none 0 (some 0) 0] [(0, 1, .c (qu 1)), (1, 1, .t 5), (2, 1, .t 6)]), qs 4 4 7] .ret)⟩
theorem rf_law41_atom : resF Go.Proofs.Tryz.prog 14 = some i_law41_atom := by kernel_rfl
noncomputable def c66_0 : AC := .its ([.op (some 3) none (.load (some 4) (.t 1)), .op (some 4) none (.mv (.t 0)), .call (some 5) none (.c (.func (.func n_syntax_every) [] [])) [.t 3, .t 4]])
noncomputable def i_syntax_allS1 : AFunc := ⟨6, [], c66_0⟩
theorem rf_syntax_allS1 : resF Go.Proofs.Tryz.prog n_syntax_allS1 = some i_syntax_allS1 := by kernel_rfl
noncomputable def i_frame_missing : AFunc := ⟨2, [(0, some (some 3))], qa [qo 0 (.alloc [.nilFunc, .nilFunc, .nilFunc])] (qa [qo 1 (.build [.nilFunc, .nilFunc, .nilFunc] [(0, 1, .c (qf 260)), (1, 1, .c (qf 261)), (2, 1, .c (qf 262))]), qs 3 0 1] .ret)⟩
theorem rf_frame_missing : resF Go.Proofs.Tryz.prog 259 = some i_frame_missing := by kernel_rfl
noncomputable def i_bits_TrailingZeros : AFunc := ⟨8, [(2, none)], qa [qk 2 (qi 0)] (.seq (.cond (.c (.bool false)) (qa [qm 3 0, qo 4 (.conv .u32 (.t 3)), qc 5 165 [.t 4], qm 2 5] .ret) .skip) (qa [qm 6 0, qc 7 166 [.t 6], qm 2 7] .ret))⟩
theorem rf_bits_TrailingZeros : resF Go.Proofs.Tryz.prog 149 = some i_bits_TrailingZeros := by kernel_rfl
noncomputable def i_istrconv_FormatBool : AFunc := ⟨4, [(2, none)], qa [qk 2 (.str [])] (.seq (qa [qm 3 0] (.cond (.t 3) (qa [qk 2 (.str [116, 114, 117, 101])] .ret) .skip)) (qa [qk 2 (.str [102, 97, 108, 115, 101])] .ret))⟩
theorem rf_istrconv_FormatBool : resF Go.Proofs.Tryz.prog 129 = some i_istrconv_FormatBool := by kernel_rfl
noncomputable def i_frame_missingS2 : AFunc := ⟨11, [(4, none)], qa [qk 4 (qi 0)] (qa [qm 5 0, qm 6 0, qm 7 1, qo 8 (.idxS 1 (.t 6) (.t 7)), ql 9 8, qc 10 258 [.t 5, .t 9], qm 4 10] .ret)⟩
theorem rf_frame_missingS2 : resF Go.Proofs.Tryz.prog 261 = some i_frame_missingS2 := by kernel_rfl
noncomputable def i_holds_traces_valid : AFunc := ⟨7, [(4, none)], qa [qo 2 (.box (.t 0)), qo 3 (.box (.t 1)), qk 4 (.bool false)] (qa [qn 5 7 3, qc 6 270 [.t 5], qm 4 6] .ret)⟩
theorem rf_holds_traces_valid : resF Go.Proofs.Tryz.prog 269 = some i_holds_traces_valid := by kernel_rfl
noncomputable def i_finite_signatureS3 : AFunc := ⟨5, [(2, none)], qa [qo 1 (.box (.t 0)), qk 2 (.str [])] (qa [qo 3 (.fieldAddr 0 (.t 1)), ql 4 3, qm 2 4] .ret)⟩
theorem rf_finite_signatureS3 : resF Go.Proofs.Tryz.prog 224 = some i_finite_signatureS3 := by kernel_rfl
noncomputable def i_bytealg_Cutover : AFunc := ⟨6, [(2, none)], qa [qk 2 (qi 0)] (qa [qm 3 0, qb 4 .add (.t 3) (qx 16), qb 5 .quo (.t 4) (qx 8), qm 2 5] .ret)⟩
theorem rf_bytealg_Cutover : resF Go.Proofs.Tryz.prog 113 = some i_bytealg_Cutover := by kernel_rfl
noncomputable def i_cmp_isNaN_string : AFunc := ⟨6, [(2, none)], qa [qk 2 (.bool false)] (qa [qm 3 0, qm 4 0, qv 5 .neq 3 4, qm 2 5] .ret)⟩
theorem rf_cmp_isNaN_string : resF Go.Proofs.Tryz.prog 236 = some i_cmp_isNaN_string := by kernel_rfl
noncomputable def i_strconv_FormatBool : AFunc := ⟨5, [(2, none)], qa [qk 2 (.str [])] (qa [qm 3 0, qc 4 129 [.t 3], qm 2 4] .ret)⟩
theorem rf_strconv_FormatBool : resF Go.Proofs.Tryz.prog 89 = some i_strconv_FormatBool := by kernel_rfl
end Go.Am
namespace Go.Am
open Go.Proofs
set_option maxRecDepth 100000
noncomputable def c67_0 : AC := .cond (.t 20) .skip (.exit 0)
noncomputable def c67_1 : List It := [.op (some 7) none (.alloc [.int .u8 0, .str [], .slice none 0 (some 0) 0, .slice none 0 (some 0) 0]), .op none none (.store 4 (.t 7) (.t 42))]
noncomputable def c67_2 : List It := [.op (some 58) none (.buildSlice 8 1 [.str [], .int .u8 0, .str [], .slice none 0 (some 0) 0, .slice none 0 (some 0) 0, .int .i64 0, .slice none 0 (some 0) 0, .slice none 0 (some 0) 0] [(0, 8, .t 57)]), .op (some 59) none (.append 8 144 (.t 51) (.t 58)), .op (some 3) none (.mv (.t 59))]
noncomputable def c67_3 : AC := .its (.op (some 51) none (.mv (.t 3)) :: .op (some 52) none (.mv (.t 6)) :: .op (some 53) none (.conv .i64 (.t 52)) :: .op (some 54) none (.bin .mul (.t 53) (.c (.int .i64 3))) :: .op (some 55) none (.bin .add (.c (.int .i64 1)) (.t 54)) :: .op (some 56) none (.load (some 4) (.t 7)) :: .call (some 57) none (.c (.func (.func n_law41_leaf) [] [])) [.t 55, .t 56] :: c67_2)
noncomputable def c67_4 : AC := .its ([.op (some 64) none (.mv (.t 3)), .op (some 65) none (.load (some 4) (.t 7)), .op (some 66) none (.build [.str [], .int .u8 0, .str [], .slice none 0 (some 0) 0, .slice none 0 (some 0) 0, .int .i64 0, .slice none 0 (some 0) 0, .slice none 0 (some 0) 0] [(0, 1, .c (.str [63])), (1, 4, .t 65)]), .op (some 67) none (.buildSlice 8 1 [.str [], .int .u8 0, .str [], .slice none 0 (some 0) 0, .slice none 0 (some 0) 0, .int .i64 0, .slice none 0 (some 0) 0, .slice none 0 (some 0) 0] [(0, 8, .t 66)]), .op (some 68) none (.append 8 144 (.t 64) (.t 67)), .op (some 3) none (.mv (.t 68))])
noncomputable def c67_5 : AC := .cond (.t 82) .skip (.exit 3)
noncomputable def c67_6 : AC := .cond (.t 104) .skip (.exit 5)
noncomputable def c67_7 : AC := .its ([.op (some 107) none (.mv (.t 11)), .op (some 108) none (.mv (.t 6)), .op (some 109) none (.conv .i64 (.t 108)), .op (some 110) none (.mv (.t 12)), .op (some 111) none (.bin .mul (.t 109) (.t 110)), .op (some 112) none (.bin .mul (.t 111) (.c (.int .i64 7))), .op (some 113) none (.mv (.t 10)), .op (some 114) none (.bin .add (.t 112) (.t 113)), .op (some 115) none (.bin .rem (.t 114) (.c (.int .i64 1000))), .op (some 116) none (.buildSlice 1 1 [.int .i64 0] [(0, 1, .t 115)]), .op (some 117) none (.append 1 8 (.t 107) (.t 116)), .op (some 11) none (.mv (.t 117))])
noncomputable def c67_8 : AC := .its ([.op (some 105) none (.mv (.t 12)), .op (some 106) none (.bin .add (.t 105) (.c (.int .i64 1))), .op (some 12) none (.mv (.t 106))])
noncomputable def c67_9 : AC := .seq (.block 6 c67_7) c67_8
noncomputable def c67_10 : AC := .seq (.seq (.its ([.op (some 98) none (.mv (.t 12)), .op (some 99) none (.mv (.t 6)), .op (some 100) none (.conv .i64 (.t 99)), .op (some 101) none (.mv (.t 10)), .op (some 102) none (.bin .add (.t 100) (.t 101)), .op (some 103) none (.bin .rem (.t 102) (.c (.int .i64 4))), .op (some 104) none (.bin .lss (.t 98) (.t 103))])) c67_6) c67_9
noncomputable def c67_11 : AC := .loop c67_10
noncomputable def c67_12 : AC := .block 5 c67_11
noncomputable def c67_13 : AC := .its ([.op (some 118) none (.fieldAddr 7 (.t 9)), .op (some 119) none (.load none (.t 118)), .op (some 120) none (.mv (.t 11)), .op (some 121) none (.buildSlice 1 1 [.slice none 0 (some 0) 0] [(0, 1, .t 120)]), .op (some 122) none (.append 1 24 (.t 119) (.t 121)), .op (some 123) none (.fieldAddr 7 (.t 9)), .op none none (.store 1 (.t 123) (.t 122))])
noncomputable def c67_14 : AC := .seq (.seq (.its ([.op (some 12) none (.mv (.c (.int .i64 0)))])) c67_12) c67_13
noncomputable def c67_15 : AC := .seq (.its ([.op (some 11) none (.mv (.c (.slice none 0 (some 0) 0)))])) c67_14
noncomputable def c67_16 : AC := .seq (.its ([.op (some 85) none (.fieldAddr 6 (.t 9)), .op (some 86) none (.load none (.t 85)), .op (some 87) none (.mv (.t 3)), .op (some 88) none (.mv (.t 5)), .op (some 89) none (.mv (.t 8)), .op (some 90) none (.bin .sub (.t 88) (.t 89)), .op (some 91) none (.mv (.t 10)), .op (some 92) none (.bin .add (.t 90) (.t 91)), .op (some 93) none (.idxS 8 (.t 87) (.t 92)), .op (some 94) none (.load (some 8) (.t 93)), .op (some 95) none (.buildSlice 8 1 [.str [], .int .u8 0, .str [], .slice none 0 (some 0) 0, .slice none 0 (some 0) 0, .int .i64 0, .slice none 0 (some 0) 0, .slice none 0 (some 0) 0] [(0, 8, .t 94)]), .op (some 96) none (.append 8 144 (.t 86) (.t 95)), .op (some 97) none (.fieldAddr 6 (.t 9)), .op none none (.store 1 (.t 97) (.t 96))])) c67_15
noncomputable def c67_17 : AC := .its ([.op (some 83) none (.mv (.t 10)), .op (some 84) none (.bin .add (.t 83) (.c (.int .i64 1))), .op (some 10) none (.mv (.t 84))])
noncomputable def c67_18 : AC := .seq (.block 4 c67_16) c67_17
noncomputable def c67_19 : AC := .seq (.seq (.its ([.op (some 80) none (.mv (.t 10)), .op (some 81) none (.mv (.t 8)), .op (some 82) none (.bin .lss (.t 80) (.t 81))])) c67_5) c67_18
noncomputable def c67_20 : AC := .loop c67_19
noncomputable def c67_21 : AC := .block 3 c67_20
noncomputable def c67_22 : AC := .its ([.op (some 124) none (.mv (.t 3)), .op (some 125) none (.mv (.t 5)), .op (some 126) none (.mv (.t 8)), .op (some 127) none (.bin .sub (.t 125) (.t 126)), .op (some 128) none (.mv (.t 5)), .op (some 129) none (.mv (.t 8)), .op (some 130) none (.bin .sub (.t 128) (.t 129)), .op (some 131) none (.sliceS 8 (.t 124) none (some (.t 127)) (some (.t 130))), .op (some 132) none (.load (some 8) (.t 9)), .op (some 133) none (.buildSlice 8 1 [.str [], .int .u8 0, .str [], .slice none 0 (some 0) 0, .slice none 0 (some 0) 0, .int .i64 0, .slice none 0 (some 0) 0, .slice none 0 (some 0) 0] [(0, 8, .t 132)]), .op (some 134) none (.append 8 144 (.t 131) (.t 133)), .op (some 3) none (.mv (.t 134))])
noncomputable def c67_23 : AC := .seq (.seq (.its ([.op (some 10) none (.mv (.c (.int .i64 0)))])) c67_21) c67_22
noncomputable def c67_24 : AC := .seq (.its ([.op (some 73) none (.buildSlice 1 3 [.str [], .str [], .str []] [(0, 1, .c (.str [97, 110, 100, 73])), (1, 1, .c (.str [114, 50])), (2, 1, .c (.str [81]))]), .op (some 74) none (.mv (.t 6)), .op (some 75) none (.bin .rem (.t 74) (.c (.int .u8 3))), .op (some 76) none (.idxS 1 (.t 73) (.t 75)), .op (some 77) none (.load none (.t 76)), .op (some 78) none (.load (some 4) (.t 7)), .op (some 79) none (.build [.str [], .int .u8 0, .str [], .slice none 0 (some 0) 0, .slice none 0 (some 0) 0, .int .i64 0, .slice none 0 (some 0) 0, .slice none 0 (some 0) 0] [(0, 1, .t 77), (1, 4, .t 78)]), .op (some 9) none (.alloc [.str [], .int .u8 0, .str [], .slice none 0 (some 0) 0, .slice none 0 (some 0) 0, .int .i64 0, .slice none 0 (some 0) 0, .slice none 0 (some 0) 0]), .op none none (.store 8 (.t 9) (.t 79))])) c67_23
noncomputable def c67_25 : AC := .cond (.t 69) c67_24 .skip
noncomputable def c67_26 : AC := .seq (.its ([.op (some 70) none (.mv (.t 8)), .op (some 71) none (.mv (.t 5)), .op (some 72) none (.bin .leq (.t 70) (.t 71)), .op (some 69) none (.mv (.t 72))])) c67_25
noncomputable def c67_27 : AC := .cond (.t 60) c67_4 c67_26
noncomputable def c67_28 : AC := .seq (.its ([.op (some 61) none (.mv (.t 6)), .op (some 62) none (.bin .rem (.t 61) (.c (.int .u8 4))), .op (some 63) none (.bin .eql (.t 62) (.c (.int .u8 1))), .op (some 60) none (.mv (.t 63))])) c67_27
noncomputable def c67_29 : AC := .cond (.t 47) c67_3 c67_28
noncomputable def c67_30 : AC := .seq (.its ([.op (some 48) none (.mv (.t 6)), .op (some 49) none (.bin .rem (.t 48) (.c (.int .u8 4))), .op (some 50) none (.bin .eql (.t 49) (.c (.int .u8 0))), .op (some 47) none (.mv (.t 50))])) c67_29
noncomputable def c67_31 : AC := .block 2 c67_30
noncomputable def c67_32 : AC := .seq (.its ([.op (some 43) none (.mv (.t 6)), .op (some 44) none (.bin .quo (.t 43) (.c (.int .u8 4))), .op (some 45) none (.conv .i64 (.t 44)), .op (some 46) none (.bin .rem (.t 45) (.c (.int .i64 5))), .op (some 8) none (.mv (.t 46))])) c67_31
noncomputable def c67_33 : AC := .seq (.its (.op (some 29) none (.mv (.t 0)) :: .op (some 30) none (.mv (.t 4)) :: .op (some 31) none (.bin .quo (.t 30) (.c (.int .i64 2))) :: .op (some 32) none (.mv (.t 4)) :: .op (some 33) none (.bin .quo (.t 32) (.c (.int .i64 2))) :: .op (some 34) none (.mv (.t 6)) :: .op (some 35) none (.conv .i64 (.t 34)) :: .op (some 36) none (.bin .rem (.t 35) (.c (.int .i64 4))) :: .op (some 37) none (.bin .add (.t 33) (.t 36)) :: .op (some 38) none (.mv (.t 0)) :: .op (some 39) none (.len .slice (.t 38)) :: .op (some 40) none (.min [.t 37, .t 39]) :: .op (some 41) none (.sliceS 1 (.t 29) (some (.t 31)) (some (.t 40)) none) :: .call (some 42) none (.c (.func (.func n_law30_Built) [] [])) [.t 41] :: c67_1)) c67_32
noncomputable def c67_34 : AC := .seq (.its ([.op (some 23) none (.mv (.t 3)), .op (some 24) none (.len .slice (.t 23)), .op (some 25) none (.mv (.t 0)), .op (some 26) none (.mv (.t 4)), .op (some 27) none (.idxS 1 (.t 25) (.t 26)), .op (some 28) none (.load none (.t 27)), .op (some 5) none (.mv (.t 24)), .again 28 none (.load none (.t 27)), .op (some 6) none (.mv (.t 28))])) c67_33
noncomputable def c67_35 : AC := .its ([.op (some 21) none (.mv (.t 4)), .op (some 22) none (.bin .add (.t 21) (.c (.int .i64 1))), .op (some 4) none (.mv (.t 22))])
noncomputable def c67_36 : AC := .seq (.block 1 c67_34) c67_35
noncomputable def c67_37 : AC := .seq (.seq (.its ([.op (some 13) none (.mv (.t 4)), .op (some 14) none (.mv (.t 0)), .op (some 15) none (.len .slice (.t 14)), .op (some 16) none (.bin .lss (.t 13) (.t 15)), .op (some 17) none (.mv (.t 16)), .op (some 18) (some (17, true)) (.mv (.t 4)), .op (some 19) (some (17, true)) (.bin .lss (.t 18) (.c (.int .i64 30))), .op (some 20) none (.pick (.t 17) (.t 19) (.c (.bool false)))])) c67_0) c67_36
noncomputable def c67_38 : AC := .loop c67_37
noncomputable def c67_39 : AC := .block 0 c67_38
noncomputable def c67_40 : List It := [.op none none (.store 8 (.t 2) (.t 139))]
noncomputable def c67_41 : List It := .call (some 139) none (.c (.func (.func n_law41_leaf) [] [])) [.c (.int .i64 1), .t 138] :: c67_40
noncomputable def c67_42 : AC := .seq (.its (.call (some 138) none (.c (.func (.func n_law41_join) [] [])) [.c (.int .u8 2), .c (.slice none 0 (some 0) 0)] :: c67_41)) .ret
noncomputable def c67_43 : AC := .cond (.t 137) c67_42 .skip
noncomputable def c67_44 : AC := .seq (.its ([.op (some 140) none (.mv (.t 3)), .op (some 141) none (.mv (.t 3)), .op (some 142) none (.len .slice (.t 141)), .op (some 143) none (.bin .sub (.t 142) (.c (.int .i64 1))), .op (some 144) none (.idxS 8 (.t 140) (.t 143)), .op (some 145) none (.load (some 8) (.t 144)), .op none none (.store 8 (.t 2) (.t 145))])) .ret
noncomputable def c67_45 : AC := .seq (.seq (.its ([.op (some 135) none (.mv (.t 3)), .op (some 136) none (.len .slice (.t 135)), .op (some 137) none (.bin .eql (.t 136) (.c (.int .i64 0)))])) c67_43) c67_44
noncomputable def c67_46 : AC := .seq (.seq (.its ([.op (some 4) none (.mv (.c (.int .i64 0)))])) c67_39) c67_45
noncomputable def c67_47 : AC := .seq (.its ([.op (some 3) none (.mv (.c (.slice none 0 (some 0) 0)))])) c67_46
noncomputable def c67_48 : AC := .seq (.its ([.op (some 2) none (.alloc [.str [], .int .u8 0, .str [], .slice none 0 (some 0) 0, .slice none 0 (some 0) 0, .int .i64 0, .slice none 0 (some 0) 0, .slice none 0 (some 0) 0])])) c67_47
noncomputable def i_law41_Proved : AFunc := ⟨146, [(2, some (some 8))], c67_48⟩
theorem rf_law41_Proved : resF Go.Proofs.Tryz.prog n_law41_Proved = some i_law41_Proved := by kernel_rfl
noncomputable def c68_0 : AC := .seq (.its ([.op (some 4) none (.mv (.c (.int .i64 0)))])) .ret
noncomputable def c68_1 : List It := [.op (some 4) none (.mv (.t 30))]
noncomputable def c68_2 : AC := .seq (.its (.op (some 27) none (.mv (.t 0)) :: .op (some 28) none (.mv (.t 1)) :: .op (some 29) none (.idxStr (.t 28) (.c (.int .i64 0))) :: .call (some 30) none (.c (.func (.func n_stringslite_IndexByte) [] [])) [.t 27, .t 29] :: c68_1)) .ret
noncomputable def c68_3 : AC := .seq (.its ([.op (some 4) none (.mv (.c (.int .i64 (-1))))])) .ret
noncomputable def c68_4 : List It := [.op (some 4) none (.mv (.t 47))]
noncomputable def c68_5 : AC := .seq (.its (.op (some 45) none (.mv (.t 0)) :: .op (some 46) none (.mv (.t 1)) :: .call (some 47) none (.c (.func (.func 112) [] [])) [.t 45, .t 46] :: c68_4)) .ret
noncomputable def c68_6 : AC := .cond (.t 36) c68_5 .skip
noncomputable def c68_7 : AC := .seq (.its ([.op (some 37) none (.mv (.t 5)), .op (some 38) none (.load none (.g 0)), .op (some 39) none (.bin .leq (.t 37) (.t 38)), .op (some 40) none (.mv (.t 39)), .op (some 41) (some (40, true)) (.mv (.t 0)), .op (some 42) (some (40, true)) (.len .str (.t 41)), .op (some 43) (some (40, true)) (.bin .leq (.t 42) (.c (.int .i64 64))), .op (some 44) none (.pick (.t 40) (.t 43) (.c (.bool false))), .op (some 36) none (.mv (.t 44))])) c68_6
noncomputable def c68_8 : AC := .cond (.t 31) c68_3 c68_7
noncomputable def c68_9 : AC := .seq (.its ([.op (some 32) none (.mv (.t 5)), .op (some 33) none (.mv (.t 0)), .op (some 34) none (.len .str (.t 33)), .op (some 35) none (.bin .geq (.t 32) (.t 34)), .op (some 31) none (.mv (.t 35))])) c68_8
noncomputable def c68_10 : AC := .cond (.t 24) c68_2 c68_9
noncomputable def c68_11 : AC := .seq (.its ([.op (some 25) none (.mv (.t 5)), .op (some 26) none (.bin .eql (.t 25) (.c (.int .i64 1))), .op (some 24) none (.mv (.t 26))])) c68_10
noncomputable def c68_12 : AC := .cond (.t 16) c68_0 c68_11
noncomputable def c68_13 : AC := .seq (.its ([.op (some 17) none (.mv (.t 5)), .op (some 18) none (.bin .eql (.t 17) (.c (.int .i64 0))), .op (some 19) none (.mv (.t 18)), .op (some 20) (some (19, false)) (.mv (.t 1)), .op (some 21) (some (19, false)) (.mv (.t 0)), .op (some 22) (some (19, false)) (.bin .eql (.t 20) (.t 21)), .op (some 23) none (.pick (.t 19) (.c (.bool true)) (.t 22)), .op (some 16) none (.mv (.t 23))])) c68_12
noncomputable def c68_14 : AC := .cond (.t 59) .skip (.exit 1)
noncomputable def c68_15 : List It := [.op (some 11) none (.mv (.t 71))]
noncomputable def c68_16 : AC := .seq (.its ([.op (some 4) none (.mv (.c (.int .i64 (-1))))])) .ret
noncomputable def c68_17 : AC := .cond (.t 73) c68_16 .skip
noncomputable def c68_18 : AC := .its ([.op (some 74) none (.mv (.t 8)), .op (some 75) none (.mv (.t 11)), .op (some 76) none (.bin .add (.t 75) (.c (.int .i64 1))), .op (some 77) none (.bin .add (.t 74) (.t 76)), .op (some 8) none (.mv (.t 77))])
noncomputable def c68_19 : AC := .seq (.seq (.its ([.op (some 72) none (.mv (.t 11)), .op (some 73) none (.bin .lss (.t 72) (.c (.int .i64 0)))])) c68_17) c68_18
noncomputable def c68_20 : AC := .seq (.its (.op (some 65) none (.mv (.t 0)) :: .op (some 66) none (.mv (.t 8)) :: .op (some 67) none (.bin .add (.t 66) (.c (.int .i64 1))) :: .op (some 68) none (.mv (.t 9)) :: .op (some 69) none (.sliceStr (.t 65) (some (.t 67)) (some (.t 68))) :: .op (some 70) none (.mv (.t 6)) :: .call (some 71) none (.c (.func (.func n_stringslite_IndexByte) [] [])) [.t 69, .t 70] :: c68_15)) c68_19
noncomputable def c68_21 : AC := .cond (.t 64) c68_20 .skip
noncomputable def c68_22 : AC := .seq (.its ([.op (some 94) none (.mv (.t 8)), .op (some 4) none (.mv (.t 94))])) .ret
noncomputable def c68_23 : AC := .cond (.t 93) c68_22 .skip
noncomputable def c68_24 : List It := [.op (some 106) (some (102, true)) (.bin .gtr (.t 103) (.t 105)), .op (some 107) none (.pick (.t 102) (.t 106) (.c (.bool false)))]
noncomputable def c68_25 : List It := [.op (some 12) none (.mv (.t 112))]
noncomputable def c68_26 : AC := .seq (.its ([.op (some 115) none (.mv (.t 12)), .op (some 116) none (.mv (.t 8)), .op (some 117) none (.bin .add (.t 115) (.t 116)), .op (some 4) none (.mv (.t 117))])) .ret
noncomputable def c68_27 : AC := .cond (.t 114) c68_26 .skip
noncomputable def c68_28 : AC := .seq (.its ([.op (some 4) none (.mv (.c (.int .i64 (-1))))])) .ret
noncomputable def c68_29 : AC := .seq (.seq (.its ([.op (some 113) none (.mv (.t 12)), .op (some 114) none (.bin .geq (.t 113) (.c (.int .i64 0)))])) c68_27) c68_28
noncomputable def c68_30 : AC := .seq (.its (.op (some 108) none (.mv (.t 0)) :: .op (some 109) none (.mv (.t 8)) :: .op (some 110) none (.sliceStr (.t 108) (some (.t 109)) none) :: .op (some 111) none (.mv (.t 1)) :: .call (some 112) none (.c (.func (.func 112) [] [])) [.t 110, .t 111] :: c68_25)) c68_29
noncomputable def c68_31 : List It := [.op (some 13) none (.mv (.t 137))]
noncomputable def c68_32 : AC := .seq (.its ([.op (some 4) none (.mv (.c (.int .i64 (-1))))])) .ret
noncomputable def c68_33 : AC := .cond (.t 139) c68_32 .skip
noncomputable def c68_34 : AC := .seq (.its ([.op (some 140) none (.mv (.t 8)), .op (some 141) none (.mv (.t 13)), .op (some 142) none (.bin .add (.t 140) (.t 141)), .op (some 4) none (.mv (.t 142))])) .ret
noncomputable def c68_35 : AC := .seq (.seq (.its ([.op (some 138) none (.mv (.t 13)), .op (some 139) none (.bin .lss (.t 138) (.c (.int .i64 0)))])) c68_33) c68_34
noncomputable def c68_36 : AC := .seq (.its (.op (some 133) none (.mv (.t 0)) :: .op (some 134) none (.mv (.t 8)) :: .op (some 135) none (.sliceStr (.t 133) (some (.t 134)) none) :: .op (some 136) none (.mv (.t 1)) :: .call (some 137) none (.c (.func (.func n_bytealg_IndexRabinKarp_string) [] [])) [.t 135, .t 136] :: c68_31)) c68_35
noncomputable def c68_37 : AC := .cond (.t 132) c68_36 .skip
noncomputable def c68_38 : AC := .seq (.its ([.op (some 118) none (.mv (.t 5)), .op (some 119) none (.load none (.g 0)), .op (some 120) none (.bin .gtr (.t 118) (.t 119)), .op (some 121) none (.mv (.t 120)), .op (some 122) (some (121, true)) (.mv (.t 10)), .op (some 123) (some (121, true)) (.mv (.t 8)), .op (some 124) (some (121, true)) (.bin .shr (.t 123) (.c (.int .u64 4))), .op (some 125) (some (121, true)) (.bin .add (.c (.int .i64 4)) (.t 124)), .op (some 126) (some (121, true)) (.bin .geq (.t 122) (.t 125)), .op (some 127) none (.pick (.t 121) (.t 126) (.c (.bool false))), .op (some 128) none (.mv (.t 127)), .op (some 129) (some (128, true)) (.mv (.t 8)), .op (some 130) (some (128, true)) (.mv (.t 9)), .op (some 131) (some (128, true)) (.bin .lss (.t 129) (.t 130)), .op (some 132) none (.pick (.t 128) (.t 131) (.c (.bool false)))])) c68_37
noncomputable def c68_39 : AC := .cond (.t 107) c68_30 c68_38
noncomputable def c68_40 : AC := .seq (.its (.op (some 99) none (.mv (.t 5)) :: .op (some 100) none (.load none (.g 0)) :: .op (some 101) none (.bin .leq (.t 99) (.t 100)) :: .op (some 102) none (.mv (.t 101)) :: .op (some 103) (some (102, true)) (.mv (.t 10)) :: .op (some 104) (some (102, true)) (.mv (.t 8)) :: .call (some 105) (some (102, true)) (.c (.func (.func n_bytealg_Cutover) [] [])) [.t 104] :: c68_24)) c68_39
noncomputable def c68_41 : AC := .seq (.its ([.op (some 97) none (.mv (.t 10)), .op (some 98) none (.bin .add (.t 97) (.c (.int .i64 1))), .op (some 10) none (.mv (.t 98))])) c68_40
noncomputable def c68_42 : AC := .seq (.its ([.op (some 95) none (.mv (.t 8)), .op (some 96) none (.bin .add (.t 95) (.c (.int .i64 1))), .op (some 8) none (.mv (.t 96))])) c68_41
noncomputable def c68_43 : AC := .seq (.seq (.its ([.op (some 78) none (.mv (.t 0)), .op (some 79) none (.mv (.t 8)), .op (some 80) none (.bin .add (.t 79) (.c (.int .i64 1))), .op (some 81) none (.idxStr (.t 78) (.t 80)), .op (some 82) none (.mv (.t 7)), .op (some 83) none (.bin .eql (.t 81) (.t 82)), .op (some 84) none (.mv (.t 83)), .op (some 85) (some (84, true)) (.mv (.t 0)), .op (some 86) (some (84, true)) (.mv (.t 8)), .op (some 87) (some (84, true)) (.mv (.t 8)), .op (some 88) (some (84, true)) (.mv (.t 5)), .op (some 89) (some (84, true)) (.bin .add (.t 87) (.t 88)), .op (some 90) (some (84, true)) (.sliceStr (.t 85) (some (.t 86)) (some (.t 89))), .op (some 91) (some (84, true)) (.mv (.t 1)), .op (some 92) (some (84, true)) (.bin .eql (.t 90) (.t 91)), .op (some 93) none (.pick (.t 84) (.t 92) (.c (.bool false)))])) c68_23) c68_42
noncomputable def c68_44 : AC := .seq (.seq (.its ([.op (some 60) none (.mv (.t 0)), .op (some 61) none (.mv (.t 8)), .op (some 62) none (.idxStr (.t 60) (.t 61)), .op (some 63) none (.mv (.t 6)), .op (some 64) none (.bin .neq (.t 62) (.t 63))])) c68_21) c68_43
noncomputable def c68_45 : AC := .block 2 c68_44
noncomputable def c68_46 : AC := .seq (.seq (.its ([.op (some 57) none (.mv (.t 8)), .op (some 58) none (.mv (.t 9)), .op (some 59) none (.bin .lss (.t 57) (.t 58))])) c68_14) c68_45
noncomputable def c68_47 : AC := .loop c68_46
noncomputable def c68_48 : AC := .seq (.its ([.op (some 4) none (.mv (.c (.int .i64 (-1))))])) .ret
noncomputable def c68_49 : AC := .seq (.block 1 c68_47) c68_48
noncomputable def c68_50 : AC := .seq (.its ([.op (some 10) none (.mv (.c (.int .i64 0)))])) c68_49
noncomputable def c68_51 : AC := .seq (.its ([.op (some 52) none (.mv (.t 0)), .op (some 53) none (.len .str (.t 52)), .op (some 54) none (.mv (.t 5)), .op (some 55) none (.bin .sub (.t 53) (.t 54)), .op (some 56) none (.bin .add (.t 55) (.c (.int .i64 1))), .op (some 9) none (.mv (.t 56))])) c68_50
noncomputable def c68_52 : AC := .seq (.its ([.op (some 8) none (.mv (.c (.int .i64 0)))])) c68_51
noncomputable def c68_53 : AC := .seq (.its ([.op (some 50) none (.mv (.t 1)), .op (some 51) none (.idxStr (.t 50) (.c (.int .i64 1))), .op (some 7) none (.mv (.t 51))])) c68_52
noncomputable def c68_54 : AC := .seq (.its ([.op (some 48) none (.mv (.t 1)), .op (some 49) none (.idxStr (.t 48) (.c (.int .i64 0))), .op (some 6) none (.mv (.t 49))])) c68_53
noncomputable def c68_55 : AC := .seq (.block 0 c68_13) c68_54
noncomputable def c68_56 : AC := .seq (.its ([.op (some 14) none (.mv (.t 1)), .op (some 15) none (.len .str (.t 14)), .op (some 5) none (.mv (.t 15))])) c68_55
noncomputable def c68_57 : AC := .seq (.its ([.op (some 4) none (.mv (.c (.int .i64 0)))])) c68_56
noncomputable def i_stringslite_Index : AFunc := ⟨143, [(4, none)], c68_57⟩
theorem rf_stringslite_Index : resF Go.Proofs.Tryz.prog n_stringslite_Index = some i_stringslite_Index := by kernel_rfl
noncomputable def c69_0 : AC := .seq (.its ([.op (some 8) none (.mv (.c (.slice none 0 (some 0) 0)))])) .ret
noncomputable def c69_1 : AC := .cond (.t 13) c69_0 .skip
noncomputable def c69_2 : List It := [.op (some 8) none (.mv (.t 18))]
noncomputable def c69_3 : AC := .seq (.its (.op (some 16) none (.mv (.t 0)) :: .op (some 17) none (.mv (.t 3)) :: .call (some 18) none (.c (.func (.func n_strings_explode) [] [])) [.t 16, .t 17] :: c69_2)) .ret
noncomputable def c69_4 : AC := .cond (.t 15) c69_3 .skip
noncomputable def c69_5 : List It := [.op (some 24) none (.bin .add (.t 23) (.c (.int .i64 1))), .op (some 3) none (.mv (.t 24))]
noncomputable def c69_6 : AC := .its (.op (some 21) none (.mv (.t 0)) :: .op (some 22) none (.mv (.t 1)) :: .call (some 23) none (.c (.func (.func n_strings_Count) [] [])) [.t 21, .t 22] :: c69_5)
noncomputable def c69_7 : AC := .cond (.t 20) c69_6 .skip
noncomputable def c69_8 : AC := .cond (.t 36) .skip (.exit 0)
noncomputable def c69_9 : List It := [.op (some 11) none (.mv (.t 39))]
noncomputable def c69_10 : AC := .cond (.t 41) (.exit 0) .skip
noncomputable def c69_11 : AC := .its ([.op (some 56) none (.mv (.t 10)), .op (some 57) none (.bin .add (.t 56) (.c (.int .i64 1))), .op (some 10) none (.mv (.t 57))])
noncomputable def c69_12 : AC := .seq (.its ([.op (some 50) none (.mv (.t 0)), .op (some 51) none (.mv (.t 11)), .op (some 52) none (.mv (.t 1)), .op (some 53) none (.len .str (.t 52)), .op (some 54) none (.bin .add (.t 51) (.t 53)), .op (some 55) none (.sliceStr (.t 50) (some (.t 54)) none), .op (some 0) none (.mv (.t 55))])) c69_11
noncomputable def c69_13 : AC := .seq (.its ([.op (some 42) none (.mv (.t 9)), .op (some 43) none (.mv (.t 10)), .op (some 44) none (.mv (.t 0)), .op (some 45) none (.mv (.t 11)), .op (some 46) none (.mv (.t 2)), .op (some 47) none (.bin .add (.t 45) (.t 46)), .op (some 48) none (.sliceStr (.t 44) none (some (.t 47))), .op (some 49) none (.idxS 1 (.t 42) (.t 43)), .op none none (.store 1 (.t 49) (.t 48))])) c69_12
noncomputable def c69_14 : AC := .seq (.seq (.its ([.op (some 40) none (.mv (.t 11)), .op (some 41) none (.bin .lss (.t 40) (.c (.int .i64 0)))])) c69_10) c69_13
noncomputable def c69_15 : AC := .seq (.its (.op (some 37) none (.mv (.t 0)) :: .op (some 38) none (.mv (.t 1)) :: .call (some 39) none (.c (.func (.func n_strings_Index) [] [])) [.t 37, .t 38] :: c69_9)) c69_14
noncomputable def c69_16 : AC := .block 1 c69_15
noncomputable def c69_17 : AC := .seq (.seq (.its ([.op (some 34) none (.mv (.t 10)), .op (some 35) none (.mv (.t 3)), .op (some 36) none (.bin .lss (.t 34) (.t 35))])) c69_8) c69_16
noncomputable def c69_18 : AC := .loop c69_17
noncomputable def c69_19 : AC := .seq (.its ([.op (some 62) none (.mv (.t 9)), .op (some 63) none (.mv (.t 10)), .op (some 64) none (.bin .add (.t 63) (.c (.int .i64 1))), .op (some 65) none (.sliceS 1 (.t 62) none (some (.t 64)) none), .op (some 8) none (.mv (.t 65))])) .ret
noncomputable def c69_20 : AC := .seq (.its ([.op (some 58) none (.mv (.t 9)), .op (some 59) none (.mv (.t 10)), .op (some 60) none (.mv (.t 0)), .op (some 61) none (.idxS 1 (.t 58) (.t 59)), .op none none (.store 1 (.t 61) (.t 60))])) c69_19
noncomputable def c69_21 : AC := .seq (.block 0 c69_18) c69_20
noncomputable def c69_22 : AC := .seq (.its ([.op (some 10) none (.mv (.c (.int .i64 0)))])) c69_21
noncomputable def c69_23 : AC := .seq (.its ([.op (some 32) none (.mv (.t 3)), .op (some 33) none (.bin .sub (.t 32) (.c (.int .i64 1))), .op (some 3) none (.mv (.t 33))])) c69_22
noncomputable def c69_24 : AC := .seq (.its ([.op (some 30) none (.mv (.t 3)), .op (some 31) none (.mkSlice 1 16 [.str []] (.t 30) (.t 30)), .op (some 9) none (.mv (.t 31))])) c69_23
noncomputable def c69_25 : AC := .seq (.its ([.op (some 25) none (.mv (.t 3)), .op (some 26) none (.mv (.t 0)), .op (some 27) none (.len .str (.t 26)), .op (some 28) none (.bin .add (.t 27) (.c (.int .i64 1))), .op (some 29) none (.min [.t 25, .t 28]), .op (some 3) none (.mv (.t 29))])) c69_24
noncomputable def c69_26 : AC := .seq (.seq (.its ([.op (some 19) none (.mv (.t 3)), .op (some 20) none (.bin .lss (.t 19) (.c (.int .i64 0)))])) c69_7) c69_25
noncomputable def c69_27 : AC := .seq (.seq (.its ([.op (some 14) none (.mv (.t 1)), .op (some 15) none (.bin .eql (.t 14) (.c (.str [])))])) c69_4) c69_26
noncomputable def c69_28 : AC := .seq (.seq (.its ([.op (some 12) none (.mv (.t 3)), .op (some 13) none (.bin .eql (.t 12) (.c (.int .i64 0)))])) c69_1) c69_27
noncomputable def c69_29 : AC := .seq (.its ([.op (some 8) none (.mv (.c (.slice none 0 (some 0) 0)))])) c69_28
noncomputable def i_strings_genSplit : AFunc := ⟨66, [(8, none)], c69_29⟩
theorem rf_strings_genSplit : resF Go.Proofs.Tryz.prog n_strings_genSplit = some i_strings_genSplit := by kernel_rfl
noncomputable def c70_0 : List It := [.op (some 4) none (.mv (.t 19))]
noncomputable def c70_1 : AC := .seq (.its (.op (some 18) none (.mv (.t 0)) :: .call (some 19) none (.c (.func (.func n_istrconv_small) [] [])) [.t 18] :: c70_0)) .ret
noncomputable def c70_2 : AC := .cond (.t 17) c70_1 .skip
noncomputable def c70_3 : AC := .its ([.op (some 24) none (.mv (.t 6)), .op (some 25) none (.un .neg (.t 24)), .op (some 6) none (.mv (.t 25))])
noncomputable def c70_4 : AC := .cond (.t 23) c70_3 .skip
noncomputable def c70_5 : List It := [.op (some 7) none (.mv (.t 27))]
noncomputable def c70_6 : AC := .seq (.its ([.op (some 36) none (.mv (.t 7)), .op (some 37) none (.bin .add (.c (.int .i64 1)) (.t 36)), .op (some 38) none (.sliceA 24 1 (.t 5) none (some (.t 37)) none), .op (some 39) none (.bytesStr (.t 38)), .op (some 4) none (.mv (.t 39))])) .ret
noncomputable def c70_7 : AC := .seq (.its ([.op (some 35) none (.idxA 24 1 (.t 5) (.c (.int .i64 0))), .op none none (.store 1 (.t 35) (.c (.int .u8 45)))])) c70_6
noncomputable def c70_8 : AC := .cond (.t 34) c70_7 .skip
noncomputable def c70_9 : AC := .seq (.its ([.op (some 40) none (.mv (.t 7)), .op (some 41) none (.bin .add (.c (.int .i64 1)) (.t 40)), .op (some 42) none (.sliceA 24 1 (.t 5) (some (.c (.int .i64 1))) (some (.t 41)) none), .op (some 43) none (.bytesStr (.t 42)), .op (some 4) none (.mv (.t 43))])) .ret
noncomputable def c70_10 : AC := .seq (.seq (.its ([.op (some 33) none (.mv (.t 0)), .op (some 34) none (.bin .lss (.t 33) (.c (.int .i64 0)))])) c70_8) c70_9
noncomputable def c70_11 : AC := .seq (.its ([.op (some 28) none (.mv (.t 7)), .op (some 29) none (.bin .add (.c (.int .i64 1)) (.t 28)), .op (some 30) none (.sliceA 24 1 (.t 5) (some (.c (.int .i64 1))) (some (.t 29)) none), .op (some 31) none (.mv (.t 6)), .call (some 32) none (.c (.func (.func n_istrconv_formatBase10) [] [])) [.t 30, .t 31]])) c70_10
noncomputable def c70_12 : AC := .seq (.its (.op (some 26) none (.mv (.t 6)) :: .call (some 27) none (.c (.func (.func n_istrconv_numDigits) [] [])) [.t 26] :: c70_5)) c70_11
noncomputable def c70_13 : AC := .seq (.seq (.its ([.op (some 22) none (.mv (.t 0)), .op (some 23) none (.bin .lss (.t 22) (.c (.int .i64 0)))])) c70_4) c70_12
noncomputable def c70_14 : AC := .seq (.its ([.op (some 20) none (.mv (.t 0)), .op (some 21) none (.conv .u64 (.t 20)), .op (some 6) none (.mv (.t 21))])) c70_13
noncomputable def c70_15 : AC := .seq (.its ([.op (some 5) none (.alloc [.int .u8 0, .int .u8 0, .int .u8 0, .int .u8 0, .int .u8 0, .int .u8 0, .int .u8 0, .int .u8 0, .int .u8 0, .int .u8 0, .int .u8 0, .int .u8 0, .int .u8 0, .int .u8 0, .int .u8 0, .int .u8 0, .int .u8 0, .int .u8 0, .int .u8 0, .int .u8 0, .int .u8 0, .int .u8 0, .int .u8 0, .int .u8 0])])) c70_14
noncomputable def c70_16 : AC := .seq (.seq (.its ([.op (some 12) none (.mv (.t 0)), .op (some 13) none (.bin .leq (.c (.int .i64 0)) (.t 12)), .op (some 14) none (.mv (.t 13)), .op (some 15) (some (14, true)) (.mv (.t 0)), .op (some 16) (some (14, true)) (.bin .lss (.t 15) (.c (.int .i64 100))), .op (some 17) none (.pick (.t 14) (.t 16) (.c (.bool false)))])) c70_2) c70_15
noncomputable def c70_17 : AC := .cond (.t 11) c70_16 .skip
noncomputable def c70_18 : List It := [.op (some 44) none (.mv (.t 50)), .op (some 51) none (.extract 0 (.t 44)), .op (some 52) none (.extract 1 (.t 44)), .op (some 8) none (.mv (.t 51)), .op (some 9) none (.mv (.t 52))]
noncomputable def c70_19 : AC := .seq (.its ([.op (some 53) none (.mv (.t 9)), .op (some 4) none (.mv (.t 53))])) .ret
noncomputable def c70_20 : AC := .seq (.its (.op (some 45) none (.mv (.t 0)) :: .op (some 46) none (.conv .u64 (.t 45)) :: .op (some 47) none (.mv (.t 1)) :: .op (some 48) none (.mv (.t 0)) :: .op (some 49) none (.bin .lss (.t 48) (.c (.int .i64 0))) :: .call (some 50) none (.c (.func (.func n_istrconv_formatBits) [] [])) [.c (.slice none 0 (some 0) 0), .t 46, .t 47, .t 49, .c (.bool false)] :: c70_18)) c70_19
noncomputable def c70_21 : AC := .seq (.seq (.its ([.op (some 10) none (.mv (.t 1)), .op (some 11) none (.bin .eql (.t 10) (.c (.int .i64 10)))])) c70_17) c70_20
noncomputable def c70_22 : AC := .seq (.its ([.op (some 4) none (.mv (.c (.str [])))])) c70_21
noncomputable def i_istrconv_FormatInt : AFunc := ⟨54, [(4, none)], c70_22⟩
theorem rf_istrconv_FormatInt : resF Go.Proofs.Tryz.prog n_istrconv_FormatInt = some i_istrconv_FormatInt := by kernel_rfl
noncomputable def c71_0 : List It := [.op (some 2) none (.mv (.t 13)), .op (some 3) none (.mv (.c (.str [])))]
noncomputable def c71_1 : AC := .seq (.its (.op (some 9) none (.fieldAddr 1 (.t 1)) :: .op (some 10) none (.load none (.t 9)) :: .op (some 11) none (.fieldAddr 2 (.t 1)) :: .op (some 12) none (.load none (.t 11)) :: .call (some 13) none (.c (.func (.func n_describe_term) [] [])) [.t 10, .t 12] :: c71_0)) .ret
noncomputable def c71_2 : List It := [.op (some 2) none (.mv (.t 19)), .op (some 3) none (.mv (.c (.str [])))]
noncomputable def c71_3 : AC := .seq (.its (.op (some 16) none (.fieldAddr 1 (.t 1)) :: .op (some 17) none (.load none (.t 16)) :: .op (some 18) none (.buildSlice 1 2 [.str [], .str []] [(0, 1, .c (.str [102, 111, 114, 32, 97, 108, 108])), (1, 1, .t 17)]) :: .call (some 19) none (.c (.func (.func n_describe_join) [] [])) [.t 18] :: c71_2)) .ret
noncomputable def c71_4 : List It := [.op (some 2) none (.mv (.t 25)), .op (some 3) none (.mv (.c (.str [])))]
noncomputable def c71_5 : AC := .seq (.its (.op (some 22) none (.fieldAddr 1 (.t 1)) :: .op (some 23) none (.load none (.t 22)) :: .op (some 24) none (.buildSlice 1 2 [.str [], .str []] [(0, 1, .c (.str [102, 111, 114, 32, 115, 111, 109, 101])), (1, 1, .t 23)]) :: .call (some 25) none (.c (.func (.func n_describe_join) [] [])) [.t 24] :: c71_4)) .ret
noncomputable def c71_6 : AC := .cond (.t 20) c71_5 .skip
noncomputable def c71_7 : AC := .seq (.its ([.op (some 21) none (.bin .eql (.t 6) (.c (.int .u8 9))), .op (some 20) none (.mv (.t 21))])) c71_6
noncomputable def c71_8 : AC := .cond (.t 14) c71_3 c71_7
noncomputable def c71_9 : AC := .seq (.its ([.op (some 15) none (.bin .eql (.t 6) (.c (.int .u8 8))), .op (some 14) none (.mv (.t 15))])) c71_8
noncomputable def c71_10 : AC := .cond (.t 7) c71_1 c71_9
noncomputable def c71_11 : AC := .seq (.its ([.op (some 8) none (.bin .eql (.t 6) (.c (.int .u8 1))), .op (some 7) none (.mv (.t 8))])) c71_10
noncomputable def c71_12 : AC := .block 0 c71_11
noncomputable def c71_13 : List It := [.op (some 4) none (.mv (.t 28))]
noncomputable def c71_14 : List It := .op (some 27) none (.mkFunc (.func n_describe_headS1) [] [.t 1]) :: .call (some 28) none (.c (.func (.func n_slices_IndexFunc_describe_pattern) [] [])) [.t 26, .t 27] :: c71_13
noncomputable def c71_15 : List It := [.again 33 none (.load none (.t 32)), .op (some 36) none (.idxS 3 (.t 34) (.t 35)), .op (some 37) none (.fieldAddr 2 (.t 36)), .op (some 38) none (.load none (.t 37)), .op (some 2) none (.mv (.t 33)), .again 38 none (.load none (.t 37)), .op (some 3) none (.mv (.t 38))]
noncomputable def c71_16 : List It := .op (some 31) none (.idxS 3 (.t 29) (.t 30)) :: .op (some 32) none (.fieldAddr 1 (.t 31)) :: .op (some 33) none (.load none (.t 32)) :: .call (some 34) none (.c (.func (.func n_describe_patterns) [] [])) [] :: c71_15
noncomputable def c71_17 : AC := .seq (.its (.op (some 30) none (.mv (.t 4)) :: .op (some 35) none (.mv (.t 4)) :: .call (some 29) none (.c (.func (.func n_describe_patterns) [] [])) [] :: c71_16)) .ret
noncomputable def c71_18 : AC := .seq (.its (.call (some 26) none (.c (.func (.func n_describe_patterns) [] [])) [] :: c71_14)) c71_17
noncomputable def c71_19 : AC := .seq (.seq (.its ([.op (some 5) none (.fieldAddr 0 (.t 1)), .op (some 6) none (.load none (.t 5))])) c71_12) c71_18
noncomputable def c71_20 : AC := .seq (.its ([.op (some 1) none (.box (.t 0)), .op (some 2) none (.mv (.c (.str []))), .op (some 3) none (.mv (.c (.str [])))])) c71_19
noncomputable def i_describe_head : AFunc := ⟨39, [(2, none), (3, none)], c71_20⟩
theorem rf_describe_head : resF Go.Proofs.Tryz.prog n_describe_head = some i_describe_head := by kernel_rfl
noncomputable def i_utf8_decodeRuneInStringSlow : AFunc := ⟨117, [(2, none), (3, none)], qa [qk 2 (.int .i32 0), qk 3 (qi 0)] (qa [qm 13 0, qo 14 (.len .str (.t 13)), qm 4 14] (.seq (qa [qm 15 4, qb 16 .lss (.t 15) (qx 1)] (.cond (.t 16) (qa [qk 2 (.int .i32 65533), qk 3 (qi 0)] .ret) .skip)) (qa [qm 17 0, qo 18 (.idxStr (.t 17) (qx 0)), qm 5 18] (qa [qm 19 5, qo 20 (.idxA 256 1 (.g 4) (.t 19)), ql 21 20, qm 6 21] (.seq (qa [qm 22 6, qb 23 .geq (.t 22) (.c (qu 240))] (.cond (.t 23) (qa [qm 24 6, qo 25 (.conv .i32 (.t 24)), qb 26 .shl (.t 25) (.c (.int .u64 31)), qb 27 .shr (.t 26) (.c (.int .u64 31)), qm 7 27] (qa [qm 28 0, qo 29 (.idxStr (.t 28) (qx 0)), qo 30 (.conv .i32 (.t 29)), qm 31 7, qv 32 .andNot 30 31, qm 33 7, qb 34 .and (.c (.int .i32 65533)) (.t 33), qv 35 .or 32 34, qm 2 35, qk 3 (qi 1)] .ret)) .skip)) (qa [qm 36 6, qb 37 .and (.t 36) (.c (qu 7)), qo 38 (.conv .i64 (.t 37)), qm 8 38] (qa [qm 39 6, qb 40 .shr (.t 39) (.c (.int .u64 4)), qo 41 (.idxA 16 2 (.g 5) (.t 40)), qn 42 2 41, qo 9 (.alloc [qu 0, qu 0]), qs 2 9 42] (.seq (qa [qm 43 4, qm 44 8, qv 45 .lss 43 44] (.cond (.t 45) (qa [qk 2 (.int .i32 65533), qk 3 (qi 1)] .ret) .skip)) (qa [qm 46 0, qo 47 (.idxStr (.t 46) (qx 1)), qm 10 47] (.seq (qa [qm 48 10, qo 49 (.fieldAddr 0 (.t 9)), ql 50 49, qv 51 .lss 48 50, qm 52 51, qg 53 52 false (.fieldAddr 1 (.t 9)), qg 54 52 false (.load none (.t 53)), qh 55 52 false 10, qg 56 52 false (.bin .lss (.t 54) (.t 55)), qp 57 52 56] (.cond (.t 57) (qa [qk 2 (.int .i32 65533), qk 3 (qi 1)] .ret) .skip)) (.seq (qa [qm 58 8, qb 59 .leq (.t 58) (qx 2)] (.cond (.t 59) (qa [qm 60 5, qb 61 .and (.t 60) (.c (qu 31)), qo 62 (.conv .i32 (.t 61)), qb 63 .shl (.t 62) (.c (.int .u64 6)), qm 64 10, qb 65 .and (.t 64) (.c (qu 63)), qo 66 (.conv .i32 (.t 65)), qv 67 .or 63 66, qm 2 67, qk 3 (qi 2)] .ret) .skip)) (qa [qm 68 0, qo 69 (.idxStr (.t 68) (qx 2)), qm 11 69] (.seq (qa [qm 70 11, qb 71 .lss (.t 70) (.c (qu 128)), qm 72 71, qh 73 72 false 11, qg 74 72 false (.bin .lss (.c (qu 191)) (.t 73)), qp 75 72 74] (.cond (.t 75) (qa [qk 2 (.int .i32 65533), qk 3 (qi 1)] .ret) .skip)) (.seq (qa [qm 76 8, qb 77 .leq (.t 76) (qx 3)] (.cond (.t 77) (qa [qm 78 5, qb 79 .and (.t 78) (.c (qu 15)), qo 80 (.conv .i32 (.t 79)), qb 81 .shl (.t 80) (.c (.int .u64 12)), qm 82 10, qb 83 .and (.t 82) (.c (qu 63)), qo 84 (.conv .i32 (.t 83)), qb 85 .shl (.t 84) (.c (.int .u64 6)), qv 86 .or 81 85, qm 87 11, qb 88 .and (.t 87) (.c (qu 63)), qo 89 (.conv .i32 (.t 88)), qv 90 .or 86 89, qm 2 90, qk 3 (qi 3)] .ret) .skip)) (qa [qm 91 0, qo 92 (.idxStr (.t 91) (qx 3)), qm 12 92] (.seq (qa [qm 93 12, qb 94 .lss (.t 93) (.c (qu 128)), qm 95 94, qh 96 95 false 12, qg 97 95 false (.bin .lss (.c (qu 191)) (.t 96)), qp 98 95 97] (.cond (.t 98) (qa [qk 2 (.int .i32 65533), qk 3 (qi 1)] .ret) .skip)) (qa [qm 99 5, qb 100 .and (.t 99) (.c (qu 7)), qo 101 (.conv .i32 (.t 100)), qb 102 .shl (.t 101) (.c (.int .u64 18)), qm 103 10, qb 104 .and (.t 103) (.c (qu 63)), qo 105 (.conv .i32 (.t 104)), qb 106 .shl (.t 105) (.c (.int .u64 12)), qv 107 .or 102 106, qm 108 11, qb 109 .and (.t 108) (.c (qu 63)), qo 110 (.conv .i32 (.t 109)), qb 111 .shl (.t 110) (.c (.int .u64 6)), qv 112 .or 107 111, qm 113 12, qb 114 .and (.t 113) (.c (qu 63)), qo 115 (.conv .i32 (.t 114)), qv 116 .or 112 115, qm 2 116, qk 3 (qi 4)] .ret)))))))))))))))))⟩
theorem rf_utf8_decodeRuneInStringSlow : resF Go.Proofs.Tryz.prog 152 = some i_utf8_decodeRuneInStringSlow := by kernel_rfl
noncomputable def c72_0 : List It := [.op (some 22) (some (15, false)) (.pick (.t 18) (.t 21) (.c (.bool false))), .op (some 23) (some (11, true)) (.pick (.t 15) (.c (.bool true)) (.t 22)), .op (some 24) none (.pick (.t 11) (.t 23) (.c (.bool false))), .op (some 4) none (.mv (.t 24))]
noncomputable def c72_1 : List It := .op (some 15) (some (11, true)) (.mv (.t 14)) :: .op (some 16) (some (15, false)) (.load none (.t 3)) :: .op (some 17) (some (15, false)) (.bin .eql (.t 16) (.c (.int .i64 1))) :: .op (some 18) (some (15, false)) (.mv (.t 17)) :: .op (some 19) (some (18, true)) (.fieldAddr 1 (.t 2)) :: .op (some 20) (some (18, true)) (.load none (.t 19)) :: .call (some 21) (some (18, true)) (.c (.func (.func n_syntax_ofTerms) [] [])) [.t 20] :: c72_0
noncomputable def c72_2 : AC := .seq (.its (.op (some 7) none (.fieldAddr 2 (.t 2)) :: .op (some 8) none (.load none (.t 7)) :: .op (some 9) none (.len .slice (.t 8)) :: .op (some 10) none (.bin .eql (.t 9) (.c (.int .i64 0))) :: .op (some 11) none (.mv (.t 10)) :: .op (some 12) (some (11, true)) (.fieldAddr 1 (.t 2)) :: .op (some 13) (some (11, true)) (.load none (.t 12)) :: .call (some 14) (some (11, true)) (.c (.func (.func n_syntax_Variable) [] [])) [.t 13] :: c72_1)) .ret
noncomputable def c72_3 : AC := .cond (.t 6) c72_2 .skip
noncomputable def c72_4 : List It := [.op (some 39) (some (34, true)) (.un .not (.t 38)), .op (some 40) none (.pick (.t 34) (.t 39) (.c (.bool false))), .op (some 4) none (.mv (.t 40))]
noncomputable def c72_5 : List It := .op (some 28) none (.mv (.t 27)) :: .op (some 29) (some (28, true)) (.fieldAddr 2 (.t 2)) :: .op (some 30) (some (28, true)) (.load none (.t 29)) :: .op (some 31) (some (28, true)) (.len .slice (.t 30)) :: .op (some 32) (some (28, true)) (.bin .leq (.t 31) (.c (.int .i64 4))) :: .op (some 33) none (.pick (.t 28) (.t 32) (.c (.bool false))) :: .op (some 34) none (.mv (.t 33)) :: .op (some 35) (some (34, true)) (.fieldAddr 2 (.t 2)) :: .op (some 36) (some (34, true)) (.load none (.t 35)) :: .op (some 37) (some (34, true)) (.mkFunc (.func n_syntax_termS1) [] [.t 3]) :: .call (some 38) (some (34, true)) (.c (.func (.func n_slices_ContainsFunc_api_Term) [] [])) [.t 36, .t 37] :: c72_4
noncomputable def c72_6 : AC := .seq (.its (.op (some 25) none (.fieldAddr 1 (.t 2)) :: .op (some 26) none (.load none (.t 25)) :: .call (some 27) none (.c (.func (.func n_syntax_Function) [] [])) [.t 26] :: c72_5)) .ret
noncomputable def c72_7 : AC := .seq (.seq (.its ([.op (some 5) none (.fieldAddr 0 (.t 2)), .op (some 6) none (.load none (.t 5))])) c72_3) c72_6
noncomputable def c72_8 : AC := .seq (.its ([.op (some 2) none (.box (.t 0)), .op (some 3) none (.box (.t 1)), .op (some 4) none (.mv (.c (.bool false)))])) c72_7
noncomputable def i_syntax_term : AFunc := ⟨41, [(4, none)], c72_8⟩
theorem rf_syntax_term : resF Go.Proofs.Tryz.prog n_syntax_term = some i_syntax_term := by kernel_rfl
noncomputable def c73_0 : List It := [.op (some 15) none (.un .not (.t 14))]
noncomputable def c73_1 : AC := .cond (.t 15) .ret .skip
noncomputable def c73_2 : AC := .its ([.op (some 5) none (.alloc [.bool false, .str [], .slice none 0 (some 0) 0]), .op none none (.store 3 (.t 5) (.t 19))])
noncomputable def c73_3 : List It := [.op (some 23) none (.un .not (.t 22))]
noncomputable def c73_4 : AC := .cond (.t 23) .ret .skip
noncomputable def c73_5 : AC := .seq (.its (.op (some 20) none (.load none (.t 2)) :: .op (some 21) none (.load (some 3) (.t 5)) :: .call (some 22) none (.t 20) [.t 21] :: c73_3)) c73_4
noncomputable def c73_6 : AC := .block 3 c73_5
noncomputable def c73_7 : AC := .rangef (.t 18) [19] c73_2 c73_6
noncomputable def c73_8 : AC := .block 2 c73_7
noncomputable def c73_9 : AC := .seq (.its ([.op (some 16) none (.fieldAddr 2 (.t 4)), .op (some 17) none (.load none (.t 16)), .call (some 18) none (.c (.func (.func n_syntax_terms) [] [])) [.t 17]])) c73_8
noncomputable def c73_10 : AC := .seq (.seq (.its (.op (some 12) none (.load none (.t 2)) :: .op (some 13) none (.load (some 3) (.t 4)) :: .call (some 14) none (.t 12) [.t 13] :: c73_0)) c73_1) c73_9
noncomputable def c73_11 : AC := .seq (.its ([.op (some 10) none (.idxS 3 (.t 6) (.t 8)), .op (some 11) none (.load (some 3) (.t 10)), .op (some 4) none (.alloc [.bool false, .str [], .slice none 0 (some 0) 0]), .op none none (.store 3 (.t 4) (.t 11))])) c73_10
noncomputable def c73_12 : AC := .its ([.op (some 24) none (.bin .add (.t 8) (.c (.int .i64 1))), .op (some 8) none (.mv (.t 24))])
noncomputable def c73_13 : AC := .seq (.block 1 c73_11) c73_12
noncomputable def c73_14 : AC := .seq (.cond (.t 9) .skip (.exit 0)) c73_13
noncomputable def c73_15 : AC := .seq (.its ([.op (some 9) none (.bin .lss (.t 8) (.t 7))])) c73_14
noncomputable def c73_16 : AC := .loop c73_15
noncomputable def c73_17 : AC := .block 0 c73_16
noncomputable def c73_18 : AC := .seq (.its ([.op (some 6) none (.load none (.t 1)), .op (some 7) none (.len .slice (.t 6)), .op (some 8) none (.mv (.c (.int .i64 0)))])) c73_17
noncomputable def c73_19 : AC := .seq (.its ([.op (some 2) none (.box (.t 0))])) c73_18
noncomputable def i_syntax_termsS1 : AFunc := ⟨25, [], c73_19⟩
theorem rf_syntax_termsS1 : resF Go.Proofs.Tryz.prog n_syntax_termsS1 = some i_syntax_termsS1 := by kernel_rfl
noncomputable def c74_0 : AC := .seq (.its ([.op (some 4) none (.mv (.c (.bool false)))])) .ret
noncomputable def c74_1 : AC := .cond (.t 10) c74_0 .skip
noncomputable def c74_2 : AC := .cond (.t 14) .skip (.exit 0)
noncomputable def c74_3 : AC := .seq (.its ([.op (some 4) none (.mv (.c (.bool false)))])) .ret
noncomputable def c74_4 : AC := .cond (.t 25) c74_3 .skip
noncomputable def c74_5 : AC := .seq (.its ([.op (some 17) none (.mv (.t 0)), .op (some 18) none (.mv (.t 5)), .op (some 19) none (.idxS 1 (.t 17) (.t 18)), .op (some 20) none (.load none (.t 19)), .op (some 21) none (.mv (.t 1)), .op (some 22) none (.mv (.t 5)), .op (some 23) none (.idxS 1 (.t 21) (.t 22)), .op (some 24) none (.load none (.t 23)), .op (some 25) none (.bin .neq (.t 20) (.t 24))])) c74_4
noncomputable def c74_6 : AC := .its ([.op (some 15) none (.mv (.t 5)), .op (some 16) none (.bin .add (.t 15) (.c (.int .i64 1))), .op (some 5) none (.mv (.t 16))])
noncomputable def c74_7 : AC := .seq (.block 1 c74_5) c74_6
noncomputable def c74_8 : AC := .seq (.seq (.its ([.op (some 11) none (.mv (.t 5)), .op (some 12) none (.mv (.t 0)), .op (some 13) none (.len .slice (.t 12)), .op (some 14) none (.bin .lss (.t 11) (.t 13))])) c74_2) c74_7
noncomputable def c74_9 : AC := .loop c74_8
noncomputable def c74_10 : AC := .block 0 c74_9
noncomputable def c74_11 : AC := .seq (.its ([.op (some 4) none (.mv (.c (.bool true)))])) .ret
noncomputable def c74_12 : AC := .seq (.seq (.its ([.op (some 5) none (.mv (.c (.int .i64 0)))])) c74_10) c74_11
noncomputable def c74_13 : AC := .seq (.seq (.its ([.op (some 6) none (.mv (.t 0)), .op (some 7) none (.len .slice (.t 6)), .op (some 8) none (.mv (.t 1)), .op (some 9) none (.len .slice (.t 8)), .op (some 10) none (.bin .neq (.t 7) (.t 9))])) c74_1) c74_12
noncomputable def c74_14 : AC := .seq (.its ([.op (some 4) none (.mv (.c (.bool false)))])) c74_13
noncomputable def i_kit_SameTexts : AFunc := ⟨26, [(4, none)], c74_14⟩
theorem rf_kit_SameTexts : resF Go.Proofs.Tryz.prog n_kit_SameTexts = some i_kit_SameTexts := by kernel_rfl
noncomputable def c75_0 : AC := .seq (.its ([.op (some 17) none (.mv (.t 5)), .op (some 4) none (.mv (.t 17))])) .ret
noncomputable def c75_1 : AC := .cond (.t 16) c75_0 .skip
noncomputable def c75_2 : AC := .seq (.its ([.op (some 11) none (.mv (.t 1)), .op (some 12) none (.mv (.t 0)), .op (some 13) none (.mv (.t 5)), .op (some 14) none (.idxS 4 (.t 12) (.t 13)), .op (some 15) none (.load (some 4) (.t 14)), .call (some 16) none (.t 11) [.t 15]])) c75_1
noncomputable def c75_3 : AC := .seq (.its ([.op (some 10) none (.mv (.t 8)), .op (some 5) none (.mv (.t 10))])) c75_2
noncomputable def c75_4 : AC := .its ([.op (some 18) none (.bin .add (.t 8) (.c (.int .i64 1))), .op (some 8) none (.mv (.t 18))])
noncomputable def c75_5 : AC := .seq (.block 1 c75_3) c75_4
noncomputable def c75_6 : AC := .seq (.cond (.t 9) .skip (.exit 0)) c75_5
noncomputable def c75_7 : AC := .seq (.its ([.op (some 9) none (.bin .lss (.t 8) (.t 7))])) c75_6
noncomputable def c75_8 : AC := .loop c75_7
noncomputable def c75_9 : AC := .block 0 c75_8
noncomputable def c75_10 : AC := .seq (.its ([.op (some 4) none (.mv (.c (.int .i64 (-1))))])) .ret
noncomputable def c75_11 : AC := .seq (.seq (.its ([.op (some 6) none (.mv (.t 0)), .op (some 7) none (.len .slice (.t 6)), .op (some 8) none (.mv (.c (.int .i64 0)))])) c75_9) c75_10
noncomputable def c75_12 : AC := .seq (.its ([.op (some 4) none (.mv (.c (.int .i64 0)))])) c75_11
noncomputable def i_slices_IndexFunc_api_Form : AFunc := ⟨19, [(4, none)], c75_12⟩
theorem rf_slices_IndexFunc_api_Form : resF Go.Proofs.Tryz.prog n_slices_IndexFunc_api_Form = some i_slices_IndexFunc_api_Form := by kernel_rfl
noncomputable def i_istrconv_ParseInt : AFunc := ⟨73, [(6, none), (7, none)], qa [qk 6 (qi 0), qk 7 .nilIface] (.seq (qa [qm 12 0, qb 13 .eql (.t 12) (qy [])] (.cond (.t 13) (qa [qo 14 (.mkIface 122 (qx 2)), qk 6 (qi 0), qm 7 14] .ret) .skip)) (qa [qk 8 (.bool false)] (.seq (qa [qm 15 0, qo 16 (.idxStr (.t 15) (qx 0))] (.block 0 (qa [qb 18 .eql (.t 16) (.c (qu 43)), qm 17 18] (.cond (.t 17) (.its [qm 19 0, qo 20 (.sliceStr (.t 19) (some (qx 1)) none), qm 0 20]) (qa [qb 22 .eql (.t 16) (.c (qu 45)), qm 21 22] (.cond (.t 21) (qa [qm 23 0, qo 24 (.sliceStr (.t 23) (some (qx 1)) none), qm 0 24] (.its [qk 8 (.bool true)])) .skip)))))) (qa [qk 9 (.int .u64 0)] (qa [qm 26 0, qm 27 1, qm 28 2, qc 29 118 [.t 26, .t 27, .t 28], qm 25 29, qe 30 0 25, qe 31 1 25, qm 9 30, qm 7 31] (.seq (qa [qm 32 7, qo 33 (.eq (.nilOf .ifaceC) true (.t 32) (.c .nilIface)), qm 34 33, qh 35 34 true 7, qg 36 34 true (.mkIface 122 (qx 1)), qg 37 34 true (.eq (.nilOf .iface) true (.t 35) (.t 36)), qq 38 34 37] (.cond (.t 38) (qa [qm 39 7, qk 6 (qi 0), qm 7 39] .ret) .skip)) (.seq (qa [qm 40 2, qb 41 .eql (.t 40) (qx 0)] (.cond (.t 41) (.its [qk 2 (qi 64)]) .skip)) (qa [qm 42 2, qb 43 .sub (.t 42) (qx 1), qo 44 (.conv .u64 (.t 43)), qb 45 .shl (.c (.int .u64 1)) (.t 44), qm 10 45] (.seq (qa [qm 46 8, qo 47 (.un .not (.t 46)), qm 48 47, qh 49 48 true 9, qh 50 48 true 10, qg 51 48 true (.bin .geq (.t 49) (.t 50)), qq 52 48 51] (.cond (.t 52) (qa [qm 53 10, qb 54 .sub (.t 53) (.c (.int .u64 1)), qo 55 (.conv .i64 (.t 54)), qo 56 (.mkIface 122 (qx 1)), qm 6 55, qm 7 56] .ret) .skip)) (.seq (qa [qm 57 8, qm 58 57, qh 59 58 true 9, qh 60 58 true 10, qg 61 58 true (.bin .gtr (.t 59) (.t 60)), qq 62 58 61] (.cond (.t 62) (qa [qm 63 10, qo 64 (.conv .i64 (.t 63)), qo 65 (.un .neg (.t 64)), qo 66 (.mkIface 122 (qx 1)), qm 6 65, qm 7 66] .ret) .skip)) (qa [qm 67 9, qo 68 (.conv .i64 (.t 67)), qm 11 68] (.seq (qa [qm 69 8] (.cond (.t 69) (.its [qm 70 11, qo 71 (.un .neg (.t 70)), qm 11 71]) .skip)) (qa [qm 72 11, qm 6 72, qk 7 .nilIface] .ret)))))))))))))⟩
theorem rf_istrconv_ParseInt : resF Go.Proofs.Tryz.prog 65 = some i_istrconv_ParseInt := by kernel_rfl
noncomputable def i_truth_Model : AFunc := ⟨51, [(4, some (some 7)), (5, none)], qa [qo 4 (.alloc [qu 0, qi 0, .slice none 0 (some 0) 0, qi 0, .slice none 0 (some 0) 0, .slice none 0 (some 0) 0, .slice none 0 (some 0) 0]), qk 5 (qi 0)] (.seq (qa [qm 10 0, qc 11 200 [.t 10], qm 6 11] (qa [qm 12 6, qb 13 .neq (.t 12) (qx 0)] (.cond (.t 13) (qa [qo 14 (.build [qu 0, qi 0, .slice none 0 (some 0) 0, qi 0, .slice none 0 (some 0) 0, .slice none 0 (some 0) 0, .slice none 0 (some 0) 0] []), qm 15 6, qs 7 4 14, qm 5 15] .ret) .skip))) (.seq (qa [qm 16 1, qb 17 .lss (.t 16) (qx 0), qm 18 17, qh 19 18 false 1, qh 20 18 false 0, qg 21 18 false (.len .slice (.t 20)), qg 22 18 false (.bin .shl (qx 1) (.t 21)), qg 23 18 false (.bin .geq (.t 19) (.t 22)), qp 24 18 23] (.cond (.t 24) (qa [qo 25 (.build [qu 0, qi 0, .slice none 0 (some 0) 0, qi 0, .slice none 0 (some 0) 0, .slice none 0 (some 0) 0, .slice none 0 (some 0) 0] []), qs 7 4 25, qk 5 (qi 2)] .ret) .skip)) (qa [qo 26 (.build [qu 0, qi 0, .slice none 0 (some 0) 0, qi 0, .slice none 0 (some 0) 0, .slice none 0 (some 0) 0, .slice none 0 (some 0) 0] [(0, 1, .c (qu 1)), (1, 1, qx 1)]), qo 7 (.alloc [qu 0, qi 0, .slice none 0 (some 0) 0, qi 0, .slice none 0 (some 0) 0, .slice none 0 (some 0) 0, .slice none 0 (some 0) 0]), qs 7 7 26] (.seq (qa [qm 27 0, qo 28 (.len .slice (.t 27)), qk 29 (qi 0)] (.block 0 (.loop (qa [qv 30 .lss 29 28] (.seq (.cond (.t 30) .skip (.exit 0)) (.seq (.block 1 (qa [qm 31 29, qo 32 (.idxS 1 (.t 27) (.t 29)), ql 33 32, qm 8 31, qm 9 33] (.its [qo 34 (.fieldAddr 4 (.t 7)), ql 35 34, qm 36 9, qm 37 1, qm 38 0, qo 39 (.len .slice (.t 38)), qb 40 .sub (.t 39) (qx 1), qm 41 8, qv 42 .sub 40 41, qv 43 .shr 37 42, qb 44 .and (.t 43) (qx 1), qo 45 (.build [.str [], qi 0, qi 0] [(0, 1, .t 36), (2, 1, .t 44)]), qo 46 (.buildSlice 3 1 [.str [], qi 0, qi 0] [(0, 3, .t 45)]), qo 47 (.append 3 32 (.t 35) (.t 46)), qo 48 (.fieldAddr 4 (.t 7)), qs 1 48 47]))) (.its [qb 49 .add (.t 29) (qx 1), qm 29 49]))))))) (qa [qn 50 7 7, qs 7 4 50, qk 5 (qi 0)] .ret)))))⟩
theorem rf_truth_Model : resF Go.Proofs.Tryz.prog 196 = some i_truth_Model := by kernel_rfl
noncomputable def c76_0 : AC := .seq (.its ([.op (some 17) none (.mv (.t 5)), .op (some 4) none (.mv (.t 17))])) .ret
noncomputable def c76_1 : AC := .cond (.t 16) c76_0 .skip
noncomputable def c76_2 : AC := .seq (.its ([.op (some 11) none (.mv (.t 1)), .op (some 12) none (.mv (.t 0)), .op (some 13) none (.mv (.t 5)), .op (some 14) none (.idxS 1 (.t 12) (.t 13)), .op (some 15) none (.load none (.t 14)), .op (some 16) none (.bin .eql (.t 11) (.t 15))])) c76_1
noncomputable def c76_3 : AC := .seq (.its ([.op (some 10) none (.mv (.t 8)), .op (some 5) none (.mv (.t 10))])) c76_2
noncomputable def c76_4 : AC := .its ([.op (some 18) none (.bin .add (.t 8) (.c (.int .i64 1))), .op (some 8) none (.mv (.t 18))])
noncomputable def c76_5 : AC := .seq (.block 1 c76_3) c76_4
noncomputable def c76_6 : AC := .seq (.cond (.t 9) .skip (.exit 0)) c76_5
noncomputable def c76_7 : AC := .seq (.its ([.op (some 9) none (.bin .lss (.t 8) (.t 7))])) c76_6
noncomputable def c76_8 : AC := .loop c76_7
noncomputable def c76_9 : AC := .block 0 c76_8
noncomputable def c76_10 : AC := .seq (.its ([.op (some 4) none (.mv (.c (.int .i64 (-1))))])) .ret
noncomputable def c76_11 : AC := .seq (.seq (.its ([.op (some 6) none (.mv (.t 0)), .op (some 7) none (.len .slice (.t 6)), .op (some 8) none (.mv (.c (.int .i64 0)))])) c76_9) c76_10
noncomputable def c76_12 : AC := .seq (.its ([.op (some 4) none (.mv (.c (.int .i64 0)))])) c76_11
noncomputable def i_slices_Index_string : AFunc := ⟨19, [(4, none)], c76_12⟩
theorem rf_slices_Index_string : resF Go.Proofs.Tryz.prog n_slices_Index_string = some i_slices_Index_string := by kernel_rfl
noncomputable def c77_0 : List It := [.op (some 8) none (.un .not (.t 7))]
noncomputable def c77_1 : AC := .seq (.its ([.op (some 2) none (.mv (.c (.slice none 0 (some 0) 0))), .op (some 3) none (.mv (.c (.int .i64 2)))])) .ret
noncomputable def c77_2 : AC := .cond (.t 8) c77_1 .skip
noncomputable def c77_3 : AC := .seq (.its ([.op (some 13) none (.load none (.t 4)), .op (some 2) none (.mv (.t 13)), .op (some 3) none (.mv (.c (.int .i64 0)))])) .ret
noncomputable def c77_4 : AC := .seq (.its ([.op (some 10) none (.load none (.t 5)), .op (some 11) none (.load (some 4) (.t 1)), .call (some 12) none (.t 10) [.t 11, .c (.int .i64 0)]])) c77_3
noncomputable def c77_5 : AC := .seq (.its ([.op (some 9) none (.mkFunc (.func n_describe_OutlineS1) [] [.t 4, .t 5]), .op none none (.store 1 (.t 5) (.t 9))])) c77_4
noncomputable def c77_6 : AC := .seq (.its ([.op (some 5) none (.alloc [.nilFunc])])) c77_5
noncomputable def c77_7 : AC := .seq (.its ([.op (some 4) none (.alloc [.slice none 0 (some 0) 0])])) c77_6
noncomputable def c77_8 : AC := .seq (.seq (.its (.op (some 6) none (.load (some 4) (.t 1)) :: .call (some 7) none (.c (.func (.func n_syntax_Right) [] [])) [.t 6] :: c77_0)) c77_2) c77_7
noncomputable def c77_9 : AC := .seq (.its ([.op (some 1) none (.box (.t 0)), .op (some 2) none (.mv (.c (.slice none 0 (some 0) 0))), .op (some 3) none (.mv (.c (.int .i64 0)))])) c77_8
noncomputable def i_describe_Outline : AFunc := ⟨14, [(2, none), (3, none)], c77_9⟩
theorem rf_describe_Outline : resF Go.Proofs.Tryz.prog n_describe_Outline = some i_describe_Outline := by kernel_rfl
noncomputable def i_trace_Valid : AFunc := ⟨53, [(2, none)], qa [qo 1 (.box (.t 0)), qk 2 (.bool false)] (.seq (qa [qo 3 (.fieldAddr 0 (.t 1)), ql 4 3, qb 5 .neq (.t 4) (.c (qu 5)), qm 6 5, qg 7 6 false (.fieldAddr 1 (.t 1)), qg 8 6 false (.load none (.t 7)), qg 9 6 false (.bin .lss (.t 8) (qx 1)), qp 10 6 9, qm 11 10, qg 12 11 false (.fieldAddr 1 (.t 1)), qg 13 11 false (.load none (.t 12)), qg 14 11 false (.bin .gtr (.t 13) (qx 5)), qp 15 11 14, qm 16 15, qg 17 16 false (.fieldAddr 3 (.t 1)), qg 18 16 false (.load none (.t 17)), qg 19 16 false (.bin .lss (.t 18) (qx 0)), qp 20 16 19, qm 21 20, qg 22 21 false (.fieldAddr 3 (.t 1)), qg 23 21 false (.load none (.t 22)), qg 24 21 false (.fieldAddr 1 (.t 1)), qg 25 21 false (.load none (.t 24)), qg 26 21 false (.bin .geq (.t 23) (.t 25)), qp 27 21 26, qm 28 27, qg 29 28 false (.load (some 7) (.t 1)), .call (some 30) (some (28, false)) (.c (qf 272)) [.t 29], .call (some 31) (some (28, false)) (.c (qf 271)) [.t 30], qg 32 28 false (.un .not (.t 31)), qp 33 28 32, qm 34 33, qg 35 34 false (.fieldAddr 2 (.t 1)), qg 36 34 false (.load none (.t 35)), qg 37 34 false (.len .slice (.t 36)), qg 38 34 false (.fieldAddr 5 (.t 1)), qg 39 34 false (.load none (.t 38)), qg 40 34 false (.len .slice (.t 39)), qg 41 34 false (.bin .add (.t 37) (.t 40)), qg 42 34 false (.fieldAddr 6 (.t 1)), qg 43 34 false (.load none (.t 42)), qg 44 34 false (.len .slice (.t 43)), qg 45 34 false (.bin .add (.t 41) (.t 44)), qg 46 34 false (.bin .gtr (.t 45) (qx 0)), qp 47 34 46] (.cond (.t 47) (qa [qk 2 (.bool false)] .ret) .skip)) (qa [qo 48 (.fieldAddr 4 (.t 1)), ql 49 48, qo 50 (.mkFunc (.func 273) [] [.t 1]), qc 51 212 [.t 49, .t 50], qo 52 (.un .not (.t 51)), qm 2 52] .ret))⟩
theorem rf_trace_Valid : resF Go.Proofs.Tryz.prog 270 = some i_trace_Valid := by kernel_rfl
noncomputable def i_holds_of : AFunc := ⟨41, [(2, none), (3, none)], qa [qo 1 (.box (.t 0)), qk 2 .nilIface, qk 3 (.bool false)] (.seq (qa [qo 5 (.fieldAddr 2 (.t 1)), ql 6 5, qb 7 .lss (.t 6) (.c (qu 1)), qm 8 7, qg 9 8 false (.fieldAddr 2 (.t 1)), qg 10 8 false (.load none (.t 9)), qg 11 8 false (.bin .gtr (.t 10) (.c (qu 5))), qp 12 8 11] (.cond (.t 12) (qa [qk 2 .nilIface, qk 3 (.bool false)] .ret) .skip)) (qa [qo 13 (.fieldAddr 3 (.t 1)), ql 14 13, qo 16 (.fieldAddr 2 (.t 1)), ql 17 16, qc 15 128 [.t 14], .again 17 none (.load none (.t 16)), qo 18 (.idxArr 6 1 none (.t 15) (.t 17)), qm 4 18] (qa [qm 19 4, qo 20 (.fieldAddr 1 (.t 1)), ql 21 20, qm 22 4, .inv (some 23) none [(212, 192), (213, 204), (215, 241), (216, 266)] (.t 22) [], .again 21 none (.load none (.t 20)), qv 24 .andNot 21 23, qb 25 .eql (.t 24) (.c (.int .u32 0)), qm 26 25, qg 27 26 true (.fieldAddr 3 (.t 1)), qg 28 26 true (.load none (.t 27)), qg 29 26 true (.bin .leq (.t 28) (.c (qu 7))), qq 30 26 29, qm 31 30, qg 32 31 true (.fieldAddr 3 (.t 1)), qg 33 31 true (.load none (.t 32)), qg 34 31 true (.bin .eql (.t 33) (.c (qu 0))), qh 35 31 true 34, qg 36 35 false (.fieldAddr 2 (.t 1)), qg 37 35 false (.load none (.t 36)), qg 38 35 false (.bin .eql (.t 37) (.c (qu 4))), qg 39 31 true (.pick (.t 35) (.c (.bool true)) (.t 38)), qq 40 31 39, qm 2 19, .again 37 (some (35, false)) (.load none (.t 36)), qm 3 40] .ret)))⟩
theorem rf_holds_of : resF Go.Proofs.Tryz.prog 87 = some i_holds_of := by kernel_rfl
noncomputable def i_frame_grow : AFunc := ⟨48, [(4, none)], qa [qk 4 (.bool false)] (qa [qk 5 (.bool false)] (.seq (qa [qc 10 259 [], qk 11 (qi 0)] (.block 0 (.loop (qa [qb 12 .lss (.t 11) (qx 3)] (.seq (.cond (.t 12) .skip (.exit 0)) (.seq (.block 1 (qa [qm 13 11, qo 14 (.idxArr 3 1 none (.t 10) (.t 11)), qm 6 13, qm 7 14] (qa [qm 15 0, qo 16 (.len .slice (.t 15)), qk 17 (qi 0)] (.block 2 (.loop (qa [qv 18 .lss 17 16] (.seq (.cond (.t 18) .skip (.exit 2)) (.seq (.block 3 (qa [qm 19 17, qm 8 19] (qa [qm 20 7, qm 21 0, qm 22 8, qm 24 0, qm 25 8, qo 26 (.idxS 1 (.t 24) (.t 25)), ql 27 26, .call (some 23) none (.t 20) [.t 21, .t 22], .again 27 none (.load none (.t 26)), qv 28 .andNot 23 27, qm 9 28] (qa [qm 29 1, qm 30 6, qv 31 .shr 29 30, qb 32 .and (.t 31) (.c (qu 1)), qb 33 .eql (.t 32) (.c (qu 1)), qm 34 33, qh 35 34 true 9, qg 36 34 true (.bin .neq (.t 35) (qx 0)), qq 37 34 36] (.cond (.t 37) (qa [qm 38 0, qm 39 8, qo 40 (.idxS 1 (.t 38) (.t 39)), ql 41 40, qm 42 9, qv 43 .or 41 42, qo 44 (.idxS 1 (.t 38) (.t 39)), qs 1 44 43] (.its [qk 5 (.bool true)])) .skip))))) (.its [qb 45 .add (.t 17) (qx 1), qm 17 45]))))))))) (.its [qb 46 .add (.t 11) (qx 1), qm 11 46]))))))) (qa [qm 47 5, qm 4 47] .ret)))⟩
theorem rf_frame_grow : resF Go.Proofs.Tryz.prog 254 = some i_frame_grow := by kernel_rfl
noncomputable def i_bytealg_hashStr_string : AFunc := ⟨39, [(2, none), (3, none)], qa [qk 2 (.int .u32 0), qk 3 (.int .u32 0)] (qa [qk 4 (.int .u32 0)] (.seq (qa [qk 5 (qi 0)] (.block 0 (.loop (.seq (qa [qm 9 5, qm 10 0, qo 11 (.len .str (.t 10)), qv 12 .lss 9 11] (.cond (.t 12) .skip (.exit 0))) (.seq (.block 1 (.its [qm 15 4, qb 16 .mul (.t 15) (.c (.int .u32 16777619)), qm 17 0, qm 18 5, qo 19 (.idxStr (.t 17) (.t 18)), qo 20 (.conv .u32 (.t 19)), qv 21 .add 16 20, qm 4 21])) (.its [qm 13 5, qb 14 .add (.t 13) (qx 1), qm 5 14])))))) (qa [qk 6 (.int .u32 1), qk 7 (.int .u32 16777619)] (.seq (qa [qm 22 0, qo 23 (.len .str (.t 22)), qm 8 23] (.block 2 (.loop (.seq (qa [qm 24 8, qb 25 .gtr (.t 24) (qx 0)] (.cond (.t 25) .skip (.exit 2))) (.seq (.block 3 (.seq (qa [qm 28 8, qb 29 .and (.t 28) (qx 1), qb 30 .neq (.t 29) (qx 0)] (.cond (.t 30) (.its [qm 31 6, qm 32 7, qv 33 .mul 31 32, qm 6 33]) .skip)) (.its [qm 34 7, qm 35 7, qv 36 .mul 34 35, qm 7 36]))) (.its [qm 26 8, qb 27 .shr (.t 26) (.c (.int .u64 1)), qm 8 27])))))) (qa [qm 37 4, qm 38 6, qm 2 37, qm 3 38] .ret)))))⟩
theorem rf_bytealg_hashStr_string : resF Go.Proofs.Tryz.prog 151 = some i_bytealg_hashStr_string := by kernel_rfl
noncomputable def i_describe_pairs : AFunc := ⟨36, [(4, none)], qa [qk 4 (.str [])] (qa [qk 5 (.slice none 0 (some 0) 0)] (.seq (qa [qk 6 (qi 0)] (.block 0 (.loop (.seq (qa [qm 7 1, qm 8 6, qv 9 .shr 7 8, qb 10 .neq (.t 9) (qx 0)] (.cond (.t 10) .skip (.exit 0))) (.seq (.block 1 (qa [qm 13 1, qm 14 6, qv 15 .shr 13 14, qb 16 .and (.t 15) (qx 1), qb 17 .eql (.t 16) (qx 1)] (.cond (.t 17) (.its [qm 18 5, qm 19 6, qm 20 0, qv 21 .quo 19 20, qm 23 6, qm 24 0, qv 25 .rem 23 24, qc 22 9 [.t 21], qc 26 9 [.t 25], qo 27 (.buildSlice 1 3 [.str [], .str [], .str []] [(0, 1, .t 22), (1, 1, qy [119, 105, 116, 104]), (2, 1, .t 26)]), qc 28 29 [.t 27], qo 29 (.buildSlice 1 1 [.str []] [(0, 1, .t 28)]), qo 30 (.append 1 16 (.t 18) (.t 29)), qm 5 30]) .skip))) (.its [qm 11 6, qb 12 .add (.t 11) (qx 1), qm 6 12])))))) (.seq (qa [qm 31 5, qo 32 (.len .slice (.t 31)), qb 33 .eql (.t 32) (qx 0)] (.cond (.t 33) (qa [qk 4 (.str [110, 111, 116, 104, 105, 110, 103])] .ret) .skip)) (qa [qm 34 5, qc 35 32 [.t 34, qy [32, 97, 110, 100, 32]], qm 4 35] .ret))))⟩
theorem rf_describe_pairs : resF Go.Proofs.Tryz.prog 88 = some i_describe_pairs := by kernel_rfl
noncomputable def i_finite_rising_string : AFunc := ⟨36, [(6, none)], qa [qk 6 (.bool false)] (.seq (qa [qm 9 0, qo 10 (.len .slice (.t 9)), qk 11 (qi 0)] (.block 0 (.loop (qa [qv 12 .lss 11 10] (.seq (.cond (.t 12) .skip (.exit 0)) (.seq (.block 1 (qa [qm 13 11, qo 14 (.idxS 1 (.t 9) (.t 11)), ql 15 14, qm 7 13, qm 8 15] (qa [qm 16 2, qm 17 8, .call (some 18) none (.t 16) [.t 17], qo 19 (.un .not (.t 18)), qm 20 19, qh 21 20 false 7, qg 22 20 false (.bin .gtr (.t 21) (qx 0)), qh 23 20 false 22, qh 24 23 true 1, qh 25 23 true 0, qh 26 23 true 7, qg 27 23 true (.bin .sub (.t 26) (qx 1)), qg 28 23 true (.idxS 1 (.t 25) (.t 27)), qg 29 23 true (.load none (.t 28)), qh 30 23 true 8, .call (some 31) (some (23, true)) (.t 24) [.t 29, .t 30], qg 32 23 true (.bin .geq (.t 31) (qx 0)), qg 33 20 false (.pick (.t 23) (.t 32) (.c (.bool false))), qp 34 20 33] (.cond (.t 34) (qa [qk 6 (.bool false)] .ret) .skip)))) (.its [qb 35 .add (.t 11) (qx 1), qm 11 35]))))))) (qa [qk 6 (.bool true)] .ret))⟩
theorem rf_finite_rising_string : resF Go.Proofs.Tryz.prog 229 = some i_finite_rising_string := by kernel_rfl
noncomputable def i_trace_rising : AFunc := ⟨29, [(2, none)], qa [qk 2 (.bool false)] (.seq (qa [qm 5 0, qo 6 (.len .slice (.t 5)), qk 7 (qi 0)] (.block 0 (.loop (qa [qv 8 .lss 7 6] (.seq (.cond (.t 8) .skip (.exit 0)) (.seq (.block 1 (qa [qm 9 7, qo 10 (.idxS 1 (.t 5) (.t 7)), ql 11 10, qm 3 9, qm 4 11] (qa [qm 12 4, qc 13 81 [.t 12], qo 14 (.un .not (.t 13)), qm 15 14, qh 16 15 false 3, qg 17 15 false (.bin .gtr (.t 16) (qx 0)), qh 18 15 false 17, qh 19 18 true 0, qh 20 18 true 3, qg 21 18 true (.bin .sub (.t 20) (qx 1)), qg 22 18 true (.idxS 1 (.t 19) (.t 21)), qg 23 18 true (.load none (.t 22)), qh 24 18 true 4, qg 25 18 true (.bin .geq (.t 23) (.t 24)), qg 26 15 false (.pick (.t 18) (.t 25) (.c (.bool false))), qp 27 15 26] (.cond (.t 27) (qa [qk 2 (.bool false)] .ret) .skip)))) (.its [qb 28 .add (.t 7) (qx 1), qm 7 28]))))))) (qa [qk 2 (.bool true)] .ret))⟩
theorem rf_trace_rising : resF Go.Proofs.Tryz.prog 271 = some i_trace_rising := by kernel_rfl
noncomputable def i_slices_Equal_api_Fact : AFunc := ⟨26, [(4, none)], qa [qk 4 (.bool false)] (.seq (qa [qm 6 0, qo 7 (.len .slice (.t 6)), qm 8 1, qo 9 (.len .slice (.t 8)), qv 10 .neq 7 9] (.cond (.t 10) (qa [qk 4 (.bool false)] .ret) .skip)) (.seq (qa [qm 11 0, qo 12 (.len .slice (.t 11)), qk 13 (qi 0)] (.block 0 (.loop (qa [qv 14 .lss 13 12] (.seq (.cond (.t 14) .skip (.exit 0)) (.seq (.block 1 (qa [qm 15 13, qm 5 15] (qa [qm 16 0, qm 17 5, qo 18 (.idxS 3 (.t 16) (.t 17)), qn 19 3 18, qm 20 1, qm 21 5, qo 22 (.idxS 3 (.t 20) (.t 21)), qn 23 3 22, qo 24 (.eq (.struct [(0, some .str), (1, some .int), (2, some .int)]) true (.t 19) (.t 23))] (.cond (.t 24) (qa [qk 4 (.bool false)] .ret) .skip)))) (.its [qb 25 .add (.t 13) (qx 1), qm 13 25]))))))) (qa [qk 4 (.bool true)] .ret)))⟩
theorem rf_slices_Equal_api_Fact : resF Go.Proofs.Tryz.prog 199 = some i_slices_Equal_api_Fact := by kernel_rfl
noncomputable def c78_0 : AC := .seq (.its ([.op (some 7) none (.mv (.t 0)), .op (some 8) none (.mv (.t 1)), .op (some 9) none (.load (some 4) (.t 5)), .op (some 10) none (.buildSlice 4 1 [.int .u8 0, .str [], .slice none 0 (some 0) 0, .slice none 0 (some 0) 0] [(0, 4, .t 9)]), .op (some 11) none (.build [.int .u8 0, .str [], .slice none 0 (some 0) 0, .slice none 0 (some 0) 0] [(0, 1, .t 7), (1, 1, .t 8), (3, 1, .t 10)]), .op none none (.store 4 (.t 6) (.t 11))])) .ret
noncomputable def c78_1 : AC := .seq (.its ([.op (some 5) none (.box (.t 2)), .op (some 6) none (.alloc [.int .u8 0, .str [], .slice none 0 (some 0) 0, .slice none 0 (some 0) 0])])) c78_0
noncomputable def i_law30_bound : AFunc := ⟨12, [(6, some (some 4))], c78_1⟩
theorem rf_law30_bound : resF Go.Proofs.Tryz.prog n_law30_bound = some i_law30_bound := by kernel_rfl
noncomputable def i_finite_mapped_api_Fact_syntax_Symbol : AFunc := ⟨22, [(4, none)], qa [qk 4 (.slice none 0 (some 0) 0)] (qa [qk 5 (.slice none 0 (some 0) 0)] (.seq (qa [qm 8 0, qo 9 (.len .slice (.t 8)), qk 10 (qi 0)] (.block 0 (.loop (qa [qv 11 .lss 10 9] (.seq (.cond (.t 11) .skip (.exit 0)) (.seq (.block 1 (qa [qo 12 (.idxS 3 (.t 8) (.t 10)), qn 13 3 12, qo 7 (.alloc [.str [], qi 0, qi 0]), qs 3 7 13] (.its [qm 14 5, qm 15 1, qn 16 3 7, .call (some 17) none (.t 15) [.t 16], qo 18 (.buildSlice 2 1 [.str [], qi 0] [(0, 2, .t 17)]), qo 19 (.append 2 24 (.t 14) (.t 18)), qm 5 19]))) (.its [qb 20 .add (.t 10) (qx 1), qm 10 20]))))))) (qa [qm 21 5, qm 4 21] .ret)))⟩
theorem rf_finite_mapped_api_Fact_syntax_Symbol : resF Go.Proofs.Tryz.prog 219 = some i_finite_mapped_api_Fact_syntax_Symbol := by kernel_rfl
noncomputable def c79_0 : List It := [.op (some 2) none (.mv (.t 5))]
noncomputable def c79_1 : AC := .seq (.its (.op (some 4) none (.load (some 8) (.t 1)) :: .call (some 5) none (.c (.func (.func n_describe_fits) [] [])) [.t 4, .c (.int .i64 0), .t 3] :: c79_0)) .ret
noncomputable def c79_2 : AC := .seq (.its ([.op (some 3) none (.alloc [.int .i64 0]), .op none none (.store 1 (.t 3) (.c (.int .i64 300)))])) c79_1
noncomputable def c79_3 : AC := .seq (.its ([.op (some 1) none (.box (.t 0)), .op (some 2) none (.mv (.c (.bool false)))])) c79_2
noncomputable def i_describe_whole : AFunc := ⟨6, [(2, none)], c79_3⟩
theorem rf_describe_whole : resF Go.Proofs.Tryz.prog n_describe_whole = some i_describe_whole := by kernel_rfl
noncomputable def c80_0 : AC := .seq (.its ([.op (some 2) none (.mv (.c (.int .i64 1)))])) .ret
noncomputable def c80_1 : AC := .cond (.t 3) c80_0 .skip
noncomputable def c80_2 : AC := .seq (.its ([.op (some 2) none (.mv (.c (.int .i64 0)))])) .ret
noncomputable def c80_3 : AC := .seq (.seq (.its ([.op (some 3) none (.mv (.t 0))])) c80_1) c80_2
noncomputable def c80_4 : AC := .seq (.its ([.op (some 2) none (.mv (.c (.int .i64 0)))])) c80_3
noncomputable def i_istrconv_bool2_int : AFunc := ⟨4, [(2, none)], c80_4⟩
theorem rf_istrconv_bool2_int : resF Go.Proofs.Tryz.prog n_istrconv_bool2_int = some i_istrconv_bool2_int := by kernel_rfl
noncomputable def c81_0 : List It := [.op (some 8) none (.bin .geq (.t 7) (.c (.int .i64 0))), .op (some 4) none (.mv (.t 8))]
noncomputable def c81_1 : AC := .seq (.its (.op (some 5) none (.mv (.t 0)) :: .op (some 6) none (.mv (.t 1)) :: .call (some 7) none (.c (.func (.func n_slices_Index_string) [] [])) [.t 5, .t 6] :: c81_0)) .ret
noncomputable def c81_2 : AC := .seq (.its ([.op (some 4) none (.mv (.c (.bool false)))])) c81_1
noncomputable def i_slices_Contains_string : AFunc := ⟨9, [(4, none)], c81_2⟩
theorem rf_slices_Contains_string : resF Go.Proofs.Tryz.prog n_slices_Contains_string = some i_slices_Contains_string := by kernel_rfl
noncomputable def i_frame_names : AFunc := ⟨20, [(2, none)], qa [qo 1 (.box (.t 0)), qk 2 (.slice none 0 (some 0) 0)] (qa [qk 3 (.slice none 0 (some 0) 0)] (.seq (qa [qo 6 (.fieldAddr 4 (.t 1)), ql 7 6, qo 8 (.len .slice (.t 7)), qk 9 (qi 0)] (.block 0 (.loop (qa [qv 10 .lss 9 8] (.seq (.cond (.t 10) .skip (.exit 0)) (.seq (.block 1 (qa [qo 11 (.idxS 3 (.t 7) (.t 9)), qn 12 3 11, qo 5 (.alloc [.str [], qi 0, qi 0]), qs 3 5 12] (.its [qm 13 3, qo 14 (.fieldAddr 0 (.t 5)), ql 15 14, qo 16 (.buildSlice 1 1 [.str []] [(0, 1, .t 15)]), qo 17 (.append 1 16 (.t 13) (.t 16)), qm 3 17]))) (.its [qb 18 .add (.t 9) (qx 1), qm 9 18]))))))) (qa [qm 19 3, qm 2 19] .ret)))⟩
theorem rf_frame_names : resF Go.Proofs.Tryz.prog 249 = some i_frame_names := by kernel_rfl
noncomputable def i_finite_ValidS2 : AFunc := ⟨18, [(3, none)], qa [qo 2 (.box (.t 0)), qk 3 (.bool false)] (qa [qo 4 (.fieldAddr 2 (.t 2)), ql 5 4, qb 6 .lss (.t 5) (qx 0), qm 7 6, qg 8 7 false (.fieldAddr 2 (.t 2)), qg 9 7 false (.load none (.t 8)), qg 10 7 false (.fieldAddr 1 (.t 1)), qg 11 7 false (.load none (.t 10)), qg 12 7 false (.fieldAddr 1 (.t 2)), qg 13 7 false (.load none (.t 12)), .call (some 14) (some (7, false)) (.c (qf 214)) [.t 11, .t 13], .again 9 (some (7, false)) (.load none (.t 8)), qg 15 7 false (.bin .shl (qx 1) (.t 14)), qg 16 7 false (.bin .geq (.t 9) (.t 15)), qp 17 7 16, qm 3 17] .ret)⟩
theorem rf_finite_ValidS2 : resF Go.Proofs.Tryz.prog 213 = some i_finite_ValidS2 := by kernel_rfl
noncomputable def c82_0 : List It := [.op (some 7) none (.un .not (.t 6)), .op (some 3) none (.mv (.t 7))]
noncomputable def c82_1 : AC := .seq (.its (.op (some 4) none (.load (some 3) (.t 2)) :: .op (some 5) none (.load none (.t 1)) :: .call (some 6) none (.c (.func (.func n_syntax_term) [] [])) [.t 4, .t 5] :: c82_0)) .ret
noncomputable def c82_2 : AC := .seq (.its ([.op (some 2) none (.box (.t 0)), .op (some 3) none (.mv (.c (.bool false)))])) c82_1
noncomputable def i_syntax_shapeS1 : AFunc := ⟨8, [(3, none)], c82_2⟩
theorem rf_syntax_shapeS1 : resF Go.Proofs.Tryz.prog n_syntax_shapeS1 = some i_syntax_shapeS1 := by kernel_rfl
noncomputable def c83_0 : List It := [.op (some 7) none (.un .not (.t 6)), .op (some 3) none (.mv (.t 7))]
noncomputable def c83_1 : AC := .seq (.its (.op (some 4) none (.load (some 3) (.t 2)) :: .op (some 5) none (.load none (.t 1)) :: .call (some 6) none (.c (.func (.func n_syntax_term) [] [])) [.t 4, .t 5] :: c83_0)) .ret
noncomputable def c83_2 : AC := .seq (.its ([.op (some 2) none (.box (.t 0)), .op (some 3) none (.mv (.c (.bool false)))])) c83_1
noncomputable def i_syntax_termS1 : AFunc := ⟨8, [(3, none)], c83_2⟩
theorem rf_syntax_termS1 : resF Go.Proofs.Tryz.prog n_syntax_termS1 = some i_syntax_termS1 := by kernel_rfl
noncomputable def c84_0 : List It := [.op (some 2) none (.mv (.t 4))]
noncomputable def c84_1 : AC := .seq (.its (.op (some 3) none (.mv (.t 0)) :: .call (some 4) none (.c (.func (.func n_syntax_name) [] [])) [.t 3, .c (.func (.func n_syntax_VariableS1) [] []), .c (.func (.func n_syntax_digit) [] [])] :: c84_0)) .ret
noncomputable def c84_2 : AC := .seq (.its ([.op (some 2) none (.mv (.c (.bool false)))])) c84_1
noncomputable def i_syntax_Variable : AFunc := ⟨5, [(2, none)], c84_2⟩
theorem rf_syntax_Variable : resF Go.Proofs.Tryz.prog n_syntax_Variable = some i_syntax_Variable := by kernel_rfl
noncomputable def i_stringslite_Cut : AFunc := ⟨23, [(4, none), (5, none), (6, none)], qa [qk 4 (.str []), qk 5 (.str []), qk 6 (.bool false)] (.seq (qa [qm 8 0, qm 9 1, qc 10 62 [.t 8, .t 9], qm 7 10] (qa [qm 11 7, qb 12 .geq (.t 11) (qx 0)] (.cond (.t 12) (qa [qm 13 0, qm 14 7, qo 15 (.sliceStr (.t 13) none (some (.t 14))), qm 16 0, qm 17 7, qm 18 1, qo 19 (.len .str (.t 18)), qv 20 .add 17 19, qo 21 (.sliceStr (.t 16) (some (.t 20)) none), qm 4 15, qm 5 21, qk 6 (.bool true)] .ret) .skip))) (qa [qm 22 0, qm 4 22, qk 5 (.str []), qk 6 (.bool false)] .ret))⟩
theorem rf_stringslite_Cut : resF Go.Proofs.Tryz.prog 36 = some i_stringslite_Cut := by kernel_rfl
noncomputable def i_frame_reach : AFunc := ⟨25, [(4, none)], qa [qk 4 (qi 0)] (qa [qk 5 (qi 0)] (.seq (qa [qm 8 0, qo 9 (.len .slice (.t 8)), qk 10 (qi 0)] (.block 0 (.loop (qa [qv 11 .lss 10 9] (.seq (.cond (.t 11) .skip (.exit 0)) (.seq (.block 1 (qa [qm 12 10, qo 13 (.idxS 1 (.t 8) (.t 10)), ql 14 13, qm 6 12, qm 7 14] (qa [qm 15 1, qm 16 6, qv 17 .shr 15 16, qb 18 .and (.t 17) (qx 1), qb 19 .eql (.t 18) (qx 1)] (.cond (.t 19) (.its [qm 20 5, qm 21 7, qv 22 .or 20 21, qm 5 22]) .skip)))) (.its [qb 23 .add (.t 10) (qx 1), qm 10 23]))))))) (qa [qm 24 5, qm 4 24] .ret)))⟩
theorem rf_frame_reach : resF Go.Proofs.Tryz.prog 258 = some i_frame_reach := by kernel_rfl
noncomputable def i_slices_IndexFunc_api_Fact : AFunc := ⟨19, [(4, none)], qa [qk 4 (qi 0)] (.seq (qa [qm 6 0, qo 7 (.len .slice (.t 6)), qk 8 (qi 0)] (.block 0 (.loop (qa [qv 9 .lss 8 7] (.seq (.cond (.t 9) .skip (.exit 0)) (.seq (.block 1 (qa [qm 10 8, qm 5 10] (qa [qm 11 1, qm 12 0, qm 13 5, qo 14 (.idxS 3 (.t 12) (.t 13)), qn 15 3 14, .call (some 16) none (.t 11) [.t 15]] (.cond (.t 16) (qa [qm 17 5, qm 4 17] .ret) .skip)))) (.its [qb 18 .add (.t 8) (qx 1), qm 8 18]))))))) (qa [qk 4 (qi (-1))] .ret))⟩
theorem rf_slices_IndexFunc_api_Fact : resF Go.Proofs.Tryz.prog 231 = some i_slices_IndexFunc_api_Fact := by kernel_rfl
noncomputable def i_syntax_meta : AFunc := ⟨24, [(4, none)], qa [qk 4 (.bool false)] (qa [qm 5 0, qo 6 (.len .str (.t 5)), qb 7 .leq (.t 6) (qx 16), qm 8 7, qh 9 8 true 0, qg 10 8 true (.len .str (.t 9)), qg 11 8 true (.bin .gtr (.t 10) (qx 1)), qq 12 8 11, qm 13 12, qh 14 13 true 0, qg 15 13 true (.idxStr (.t 14) (qx 0)), qg 16 13 true (.bin .eql (.t 15) (.c (qu 63))), qq 17 13 16, qm 18 17, qh 19 18 true 1, qh 20 18 true 0, qg 21 18 true (.sliceStr (.t 20) (some (qx 1)) none), .call (some 22) (some (18, true)) (.t 19) [.t 21], qq 23 18 22, qm 4 23] .ret)⟩
theorem rf_syntax_meta : resF Go.Proofs.Tryz.prog 142 = some i_syntax_meta := by kernel_rfl
noncomputable def i_utf8_DecodeRuneInString : AFunc := ⟨19, [(2, none), (3, none)], qa [qk 2 (.int .i32 0), qk 3 (qi 0)] (.seq (qa [qm 4 0, qb 5 .neq (.t 4) (qy []), qm 6 5, qh 7 6 true 0, qg 8 6 true (.idxStr (.t 7) (qx 0)), qg 9 6 true (.bin .lss (.t 8) (.c (qu 128))), qq 10 6 9] (.cond (.t 10) (qa [qm 11 0, qo 12 (.idxStr (.t 11) (qx 0)), qo 13 (.conv .i32 (.t 12)), qm 2 13, qk 3 (qi 1)] .ret) (.its [qm 15 0, qc 16 152 [.t 15], qm 14 16, qe 17 0 14, qe 18 1 14, qm 2 17, qm 3 18]))) .ret)⟩
theorem rf_utf8_DecodeRuneInString : resF Go.Proofs.Tryz.prog 116 = some i_utf8_DecodeRuneInString := by kernel_rfl
noncomputable def c85_0 : List It := [.op (some 7) none (.un .not (.t 6)), .op (some 3) none (.mv (.t 7))]
noncomputable def c85_1 : AC := .seq (.its (.op (some 4) none (.load none (.t 1)) :: .op (some 5) none (.mv (.t 0)) :: .call (some 6) none (.t 4) [.t 5] :: c85_0)) .ret
noncomputable def c85_2 : AC := .seq (.its ([.op (some 3) none (.mv (.c (.bool false)))])) c85_1
noncomputable def i_syntax_nameS1 : AFunc := ⟨8, [(3, none)], c85_2⟩
theorem rf_syntax_nameS1 : resF Go.Proofs.Tryz.prog n_syntax_nameS1 = some i_syntax_nameS1 := by kernel_rfl
noncomputable def c86_0 : AC := .seq (.its ([.op (some 5) none (.mv (.t 0)), .op (some 6) none (.mv (.t 1)), .op (some 7) none (.build [.bool false, .str [], .slice none 0 (some 0) 0] [(1, 1, .t 5), (2, 1, .t 6)]), .op none none (.store 3 (.t 4) (.t 7))])) .ret
noncomputable def c86_1 : AC := .seq (.its ([.op (some 4) none (.alloc [.bool false, .str [], .slice none 0 (some 0) 0])])) c86_0
noncomputable def i_law30_apply : AFunc := ⟨8, [(4, some (some 3))], c86_1⟩
theorem rf_law30_apply : resF Go.Proofs.Tryz.prog n_law30_apply = some i_law30_apply := by kernel_rfl
noncomputable def i_slices_Index_int : AFunc := ⟨19, [(4, none)], qa [qk 4 (qi 0)] (.seq (qa [qm 6 0, qo 7 (.len .slice (.t 6)), qk 8 (qi 0)] (.block 0 (.loop (qa [qv 9 .lss 8 7] (.seq (.cond (.t 9) .skip (.exit 0)) (.seq (.block 1 (qa [qm 10 8, qm 5 10] (qa [qm 11 1, qm 12 0, qm 13 5, qo 14 (.idxS 1 (.t 12) (.t 13)), ql 15 14, qv 16 .eql 11 15] (.cond (.t 16) (qa [qm 17 5, qm 4 17] .ret) .skip)))) (.its [qb 18 .add (.t 8) (qx 1), qm 8 18]))))))) (qa [qk 4 (qi (-1))] .ret))⟩
theorem rf_slices_Index_int : resF Go.Proofs.Tryz.prog 257 = some i_slices_Index_int := by kernel_rfl
noncomputable def i_stringslite_Clone : AFunc := ⟨18, [(2, none)], qa [qk 2 (.str [])] (.seq (qa [qm 4 0, qo 5 (.len .str (.t 4)), qb 6 .eql (.t 5) (qx 0)] (.cond (.t 6) (qa [qk 2 (.str [])] .ret) .skip)) (qa [qm 7 0, qo 8 (.len .str (.t 7)), qo 9 (.mkSlice 1 1 [qu 0] (.t 8) (.t 8)), qm 3 9] (qa [qm 10 3, qm 11 0, qo 12 (.copy 1 (.t 10) (.t 11))] (qa [qm 13 3, qo 14 (.idxS 1 (.t 13) (qx 0)), qm 15 3, qo 16 (.len .slice (.t 15)), qo 17 .fail, qm 2 17] .ret))))⟩
theorem rf_stringslite_Clone : resF Go.Proofs.Tryz.prog 119 = some i_stringslite_Clone := by kernel_rfl
noncomputable def i_bits_TrailingZeros64 : AFunc := ⟨14, [(2, none)], qa [qk 2 (qi 0)] (.seq (qa [qm 3 0, qb 4 .eql (.t 3) (.c (.int .u64 0))] (.cond (.t 4) (qa [qk 2 (qi 64)] .ret) .skip)) (qa [qm 5 0, qm 6 0, qo 7 (.un .neg (.t 6)), qv 8 .and 5 7, qb 9 .mul (.t 8) (.c (.int .u64 285870213051353865)), qb 10 .shr (.t 9) (.c (.int .u64 58)), qo 11 (.idxA 64 1 (.g 7) (.t 10)), ql 12 11, qo 13 (.conv .i64 (.t 12)), qm 2 13] .ret))⟩
theorem rf_bits_TrailingZeros64 : resF Go.Proofs.Tryz.prog 166 = some i_bits_TrailingZeros64 := by kernel_rfl
noncomputable def i_bits_TrailingZeros32 : AFunc := ⟨14, [(2, none)], qa [qk 2 (qi 0)] (.seq (qa [qm 3 0, qb 4 .eql (.t 3) (.c (.int .u32 0))] (.cond (.t 4) (qa [qk 2 (qi 32)] .ret) .skip)) (qa [qm 5 0, qm 6 0, qo 7 (.un .neg (.t 6)), qv 8 .and 5 7, qb 9 .mul (.t 8) (.c (.int .u32 125613361)), qb 10 .shr (.t 9) (.c (.int .u64 27)), qo 11 (.idxA 32 1 (.g 6) (.t 10)), ql 12 11, qo 13 (.conv .i64 (.t 12)), qm 2 13] .ret))⟩
theorem rf_bits_TrailingZeros32 : resF Go.Proofs.Tryz.prog 165 = some i_bits_TrailingZeros32 := by kernel_rfl
noncomputable def i_describe_reader_formS1 : AFunc := ⟨13, [(3, none)], qa [qk 3 (.bool false)] (qa [qo 4 (.fieldAddr 3 (.t 1)), ql 5 4, qm 6 0, qo 7 (.lookup .str false .nilFunc (.t 5) (.t 6)), qo 8 (.eq (.nilOf .func) true (.t 7) (.c .nilFunc)), qm 9 8, qh 10 9 false 0, .call (some 11) (some (9, false)) (.c (qf 81)) [.t 10], qp 12 9 11, qm 3 12] .ret)⟩
theorem rf_describe_reader_formS1 : resF Go.Proofs.Tryz.prog 80 = some i_describe_reader_formS1 := by kernel_rfl
noncomputable def i_strings_Builder_String : AFunc := ⟨14, [(2, none)], qa [qk 2 (.str [])] (qa [qm 3 0, qo 4 (.nilCheck (.t 3)), qo 5 (.fieldAddr 1 (.t 4)), ql 6 5, qm 8 0, qo 9 (.nilCheck (.t 8)), qo 10 (.fieldAddr 1 (.t 9)), ql 11 10, qo 12 (.len .slice (.t 11)), qo 7 .fail, .again 11 none (.load none (.t 10)), qo 13 .fail, qm 2 13] .ret)⟩
theorem rf_strings_Builder_String : resF Go.Proofs.Tryz.prog 57 = some i_strings_Builder_String := by kernel_rfl
noncomputable def i_utf8_RuneCountInString : AFunc := ⟨10, [(2, none)], qa [qk 2 (qi 0)] (.seq (qa [qm 3 0, qo 4 (.rangeStr (.t 3))] (.block 0 (.loop (qa [qo 5 (.nextStr (.t 4)), qe 6 0 5] (.seq (.cond (.t 6) .skip (.exit 0)) (.block 1 (.its [qm 7 2, qb 8 .add (.t 7) (qx 1), qm 2 8]))))))) (qa [qm 9 2, qm 2 9] .ret))⟩
theorem rf_utf8_RuneCountInString : resF Go.Proofs.Tryz.prog 115 = some i_utf8_RuneCountInString := by kernel_rfl
noncomputable def i_finite_signatureS1 : AFunc := ⟨8, [(2, some (some 2))], qa [qo 1 (.box (.t 0)), qo 2 (.alloc [.str [], qi 0])] (qa [qo 3 (.fieldAddr 0 (.t 1)), ql 4 3, qo 5 (.fieldAddr 1 (.t 1)), ql 6 5, qo 7 (.build [.str [], qi 0] [(0, 1, .t 4), (1, 1, .t 6)]), qs 2 2 7] .ret)⟩
theorem rf_finite_signatureS1 : resF Go.Proofs.Tryz.prog 220 = some i_finite_signatureS1 := by kernel_rfl
noncomputable def i_finite_ValidS1 : AFunc := ⟨12, [(3, none)], qa [qk 3 (.bool false)] (qa [qm 4 0, qb 5 .lss (.t 4) (qx 0), qm 6 5, qh 7 6 false 0, qg 8 6 false (.fieldAddr 1 (.t 1)), qg 9 6 false (.load none (.t 8)), qg 10 6 false (.bin .geq (.t 7) (.t 9)), qp 11 6 10, qm 3 11] .ret)⟩
theorem rf_finite_ValidS1 : resF Go.Proofs.Tryz.prog 211 = some i_finite_ValidS1 := by kernel_rfl
noncomputable def i_describe_reader_termS1 : AFunc := ⟨9, [(2, none)], qa [qk 2 (.bool false)] (qa [qm 3 0, qc 4 78 [.t 3], qm 5 4, qh 6 5 false 0, .call (some 7) (some (5, false)) (.c (qf 140)) [.t 6], qp 8 5 7, qm 2 8] .ret)⟩
theorem rf_describe_reader_termS1 : resF Go.Proofs.Tryz.prog 159 = some i_describe_reader_termS1 := by kernel_rfl
noncomputable def i_slices_ContainsFunc_api_Fact : AFunc := ⟨9, [(4, none)], qa [qk 4 (.bool false)] (qa [qm 5 0, qm 6 1, qc 7 231 [.t 5, .t 6], qb 8 .geq (.t 7) (qx 0), qm 4 8] .ret)⟩
theorem rf_slices_ContainsFunc_api_Fact : resF Go.Proofs.Tryz.prog 212 = some i_slices_ContainsFunc_api_Fact := by kernel_rfl
noncomputable def i_describe_reader_word : AFunc := ⟨8, [], qa [qo 2 (.box (.t 0)), qo 3 (.box (.t 1))] (.its [qo 4 (.fieldAddr 0 (.t 2)), ql 5 4, qo 6 (.mkFunc (.func 121) [] [.t 3]), .call (some 7) none (.t 5) [.t 6]])⟩
theorem rf_describe_reader_word : resF Go.Proofs.Tryz.prog 75 = some i_describe_reader_word := by kernel_rfl
noncomputable def i_finite_ValidS4 : AFunc := ⟨8, [(3, none)], qa [qo 2 (.box (.t 0)), qk 3 (.bool false)] (qa [ql 4 1, qo 5 (.fieldAddr 1 (.t 2)), ql 6 5, .call (some 7) none (.t 4) [.t 6], qm 3 7] .ret)⟩
theorem rf_finite_ValidS4 : resF Go.Proofs.Tryz.prog 218 = some i_finite_ValidS4 := by kernel_rfl
noncomputable def i_strings_ContainsFunc : AFunc := ⟨9, [(4, none)], qa [qk 4 (.bool false)] (qa [qm 5 0, qm 6 1, qc 7 160 [.t 5, .t 6], qb 8 .geq (.t 7) (qx 0), qm 4 8] .ret)⟩
theorem rf_strings_ContainsFunc : resF Go.Proofs.Tryz.prog 131 = some i_strings_ContainsFunc := by kernel_rfl
noncomputable def i_strings_Contains : AFunc := ⟨9, [(4, none)], qa [qk 4 (.bool false)] (qa [qm 5 0, qm 6 1, qc 7 40 [.t 5, .t 6], qb 8 .geq (.t 7) (qx 0), qm 4 8] .ret)⟩
theorem rf_strings_Contains : resF Go.Proofs.Tryz.prog 13 = some i_strings_Contains := by kernel_rfl
noncomputable def i_holds_traces_ops : AFunc := ⟨3, [(2, none)], qa [qo 1 (.box (.t 0)), qk 2 (.int .u32 0)] (qa [qk 2 (.int .u32 28926)] .ret)⟩
theorem rf_holds_traces_ops : resF Go.Proofs.Tryz.prog 266 = some i_holds_traces_ops := by kernel_rfl
noncomputable def i_syntax_ofTerms : AFunc := ⟨5, [(2, none)], qa [qk 2 (.bool false)] (qa [qm 3 0, qc 4 142 [.t 3, .c (qf 140)], qm 2 4] .ret)⟩
theorem rf_syntax_ofTerms : resF Go.Proofs.Tryz.prog 102 = some i_syntax_ofTerms := by kernel_rfl
noncomputable def i_frame_missingS1 : AFunc := ⟨7, [(4, none)], qa [qk 4 (qi 0)] (qa [qm 5 1, qb 6 .shl (qx 1) (.t 5), qm 4 6] .ret)⟩
theorem rf_frame_missingS1 : resF Go.Proofs.Tryz.prog 260 = some i_frame_missingS1 := by kernel_rfl
end Go.Am
namespace Go.Am
open Go.RowKit Go.Proofs Do
set_option maxRecDepth 100000
theorem hmx : Tryz.prog.follows .mixedOrders = true := by kernel_rfl
abbrev RR := RsOf Tryz.prog
theorem highs_take {l : List T} {k : Nat} {t : T} (h : l[k]? = some t) : T.highs (l.take (k + 1)) = max (T.highs (l.take k)) t.high := by
  induction l generalizing k with
  | nil => simp at h
  | cons a r ih =>
    cases k with
    | zero => simp only [List.getElem?_cons_zero, Option.some.injEq] at h; subst h; simp [T.highs]
    | succ k => simp only [List.getElem?_cons_succ] at h; simp only [List.take_succ_cons, T.highs, ih h]; omega
theorem cnts_mem {l : List T} {t : T} (h : t ∈ l) : t.cnt ≤ T.cnts l := by
  induction l with
  | nil => cases h
  | cons a r ih =>
    simp only [T.cnts]
    rcases List.mem_cons.1 h with e | e
    · subst e; omega
    · have := ih e; omega
theorem cnts_len (l : List T) : l.length ≤ T.cnts l := by
  induction l with
  | nil => simp
  | cons a r ih => cases a; simp only [T.cnts, T.cnt, List.length_cons]; omega
mutual
theorem high_cnt : ∀ t : T, t.high ≤ t.cnt
  | .mk _ _ ar => by have := highs_cnts ar; simp only [T.high, T.cnt]; omega
theorem highs_cnts : ∀ l : List T, T.highs l ≤ T.cnts l
  | [] => by simp [T.highs]
  | t :: r => by have := high_cnt t; have := highs_cnts r; simp only [T.highs, T.cnts]; omega
end
theorem max_int (a b : Nat) : (if (b : Int) > (a : Int) then (b : Int) else (a : Int)) = ((max a b : Nat) : Int) := by
  split <;> omega
theorem high_ok : ∀ (m : Nat) (l : List T), T.cnts l ≤ m → m ≤ 1152921504606846976 → ∀ (σ : AState) (o : Option (Nat × Nat)) (n : Nat) (c : Option Nat) (z : Nat), Ts σ.get o n z l →
    RunF RR Tryz.prog n_syntax_high [.slice o n c z] σ (fun u σ' => u = .int .i64 (T.highs l) ∧ σ' = σ) := by
  intro m
  induction m using Nat.strongRecOn with
  | _ m ih =>
  intro l hl hm σ o n c z hT
  refine RunV.wf fun hW => RunV.forget rfl ?_
  refine runF_intro hmx rf_syntax_high ?_
  have hn : n = l.length := hT.1
  have hlen := cnts_len l
  simp -implicitDefEqProofs (maxDischargeDepth := 15) only [Yr, Ys, Yt, Wj, Wk, Wm, Wo, opA, Wv, Ww, Wx, Wy, Wz, Za, Zb, List.replicate, Zc, Zd, Ze, Vb, Zf, Zg, Nat.reduceSub, Zk, i_syntax_high, c51_0, c51_1, c51_2, c51_3, c51_4, c51_5, c51_6, c51_7, c51_8, c51_9, c51_10, c51_11, c51_12]
  refine wp_loop (fun ts σ' m => ∃ k : Nat, Grow σ σ' ∧ k + m = n ∧ ∃ j1 j4 j5 j9 j10 j11 j12 j13 j14 j15 j16 j17 j18 j19 : AV, ts = [.slice o n c z, j1, .int .i64 0, .int .i64 (T.highs (l.take k)), j4, j5, .slice o n c z, .int .i64 n, .int .i64 k, j9, j10, j11, j12, j13, j14, j15, j16, j17, j18, j19]) n ⟨0, Grow.refl hW, by omega, _, _, _, _, _, _, _, _, _, _, _, _, _, _, rfl⟩ ?_
  rintro m' ts σ' ⟨k, hG, hk, j1, j4, j5, j9, j10, j11, j12, j13, j14, j15, j16, j17, j18, j19, rfl⟩
  by_cases hlt : k < n
  · obtain ⟨t, ht, htm⟩ := get_lt (l := l) (k := k) (by omega)
    obtain ⟨rfl, i, off, cs, w, rfl, hg, hlen3, xs, hxs, hd⟩ := (hT.sub hG.sub).elem ht
    obtain ⟨v, nm, ar⟩ := t
    obtain ⟨oa, ca, za, rfl, hA⟩ := T.cells hd
    have hi := hG.wf.lt hg
    have hd : decide ((k : Int) < n) = true := decide_eq_true (by omega)
    have e1 : (0 : Int) ≤ (k : Int) ∧ (k : Int) < (n : Int) := by omega
    have hc := cnts_mem htm
    simp only [T.cnt] at hc
    have h1 := highs_cnts ar
    have h2 := highs_cnts l
    simp -implicitDefEqProofs (maxDischargeDepth := 15) only [↓reduceIte, Yr, Ys, Yt, Yz, Wb, Wg, Wh, Wj, Wk, Wl, Wm, Wo, Wp, Wq, Ws, Wt, opA, Wv, Ww, Wx, Wy, Wz, Va, Za, Zb, Zd, Ze, Vb, Vc, Vd, Ve, AV.cells, Vg, Vn, partA, Zf, Zg, Zh, Zi, Nat.reduceAdd, Zj, Zk, Zn, Zp, Zq, Zr, Zs, binA, putL, allOne, Zu, Zv, AV.one, Zy, and_self, EndOk, resultA, oneOf, Zz, Yf, eq_self, Yp, e1, hg, hlen3, hxs]
    refine RunV.to (ih (T.cnts ar) (by omega) ar (by omega) (by omega) _ _ _ _ _ (hA.sub (sub_push hG.wf _))) ?_
    simp -implicitDefEqProofs (maxDischargeDepth := 15) only [↓reduceIte, Yr, Ys, Yt, Wj, Wo, Wr, Wu, opA, Wv, Ww, Wx, Wy, Wz, Za, Zb, Vb, Zh, Zi, binA, eq_self, maxA]
    rw [wrap_i64 (n := (k : Int) + 1) (by omega), wrap_i64 (n := 1 + (T.highs ar : Int)) (by omega)]
    have hmax : (if 1 + (T.highs ar : Int) > (T.highs (l.take k) : Int) then 1 + (T.highs ar : Int) else (T.highs (l.take k) : Int)) = ((T.highs (l.take (k + 1)) : Nat) : Int) := by
      rw [highs_take ht]
      simp only [T.high]
      split <;> omega
    rw [hmax]
    exact ⟨m' - 1, by omega, k + 1, hG.push _, by omega, _, _, _, _, _, _, _, _, _, _, _, _, _, _, rfl⟩
  · have hd : decide ((k : Int) < n) = false := decide_eq_false (by omega)
    simp -implicitDefEqProofs (maxDischargeDepth := 15) only [↓reduceIte, Yr, Ys, Yt, Wa, Wh, Wi, Wj, Wk, Wl, Wo, Wp, Wq, Ws, Wt, opA, Wv, Wx, Wy, Wz, Za, Zb, Vb, binA, EndOk, resultA, oneOf, Zz, eq_self, hd]
    have : l.take k = l := List.take_of_length_le (by omega)
    rw [this]
    exact ⟨rfl, hG.sub⟩
end Go.Am
namespace Go.Am
open Go.RowKit Go.Proofs Do
set_option maxRecDepth 100000
theorem depths_take {l : List F} {k : Nat} {t : F} (h : l[k]? = some t) : F.depths (l.take (k + 1)) = max (F.depths (l.take k)) t.depth := by
  induction l generalizing k with
  | nil => simp at h
  | cons a r ih =>
    cases k with
    | zero => simp only [List.getElem?_cons_zero, Option.some.injEq] at h; subst h; simp [F.depths]
    | succ k => simp only [List.getElem?_cons_succ] at h; simp only [List.take_succ_cons, F.depths, ih h]; omega
theorem nodes_mem {l : List F} {t : F} (h : t ∈ l) : t.nodes ≤ F.nodess l := by
  induction l with
  | nil => cases h
  | cons a r ih =>
    simp only [F.nodess]
    rcases List.mem_cons.1 h with e | e
    · subst e; omega
    · have := ih e; omega
theorem nodess_len (l : List F) : l.length ≤ F.nodess l := by
  induction l with
  | nil => simp
  | cons a r ih => cases a; simp only [F.nodess, F.nodes, List.length_cons]; omega
mutual
theorem depth_nodes : ∀ t : F, t.depth ≤ t.nodes
  | .mk _ _ ar l => by have := highs_cnts ar; have := depths_nodess l; simp only [F.depth, F.nodes]; omega
theorem depths_nodess : ∀ l : List F, F.depths l ≤ F.nodess l
  | [] => by simp [F.depths]
  | t :: r => by have := depth_nodes t; have := depths_nodess r; simp only [F.depths, F.nodess]; omega
end
theorem depth_ok : ∀ (m : Nat) (f : F), f.nodes ≤ m → m ≤ 1152921504606846976 → ∀ (σ : AState) (xs : List AV), DAtL σ.get f.dv xs →
    RunF RR Tryz.prog n_syntax_Depth [.agg xs] σ (fun u σ' => u = .int .i64 f.depth ∧ σ' = σ) := by
  intro m
  induction m using Nat.strongRecOn with
  | _ m ih =>
  intro f hf hm σ xs hD
  refine RunV.wf fun hW => RunV.forget rfl ?_
  refine runF_intro hmx rf_syntax_Depth ?_
  obtain ⟨op, nm, ar, l⟩ := f
  obtain ⟨o1, c1, z1, o2, c2, z2, rfl, hA, hL⟩ := F.cells hD
  simp only [F.nodes] at hf
  have hlen := nodess_len l
  have h1 := highs_cnts ar
  have h2 := depths_nodess l
  simp -implicitDefEqProofs (maxDischargeDepth := 15) only [Yr, Ys, Yt, Wb, Wj, Wk, Wo, opA, Wv, Ww, Wx, Wy, Wz, Za, Zb, List.replicate, Zc, Zd, Ze, Vb, Vc, Vd, AV.cells, Vg, partA, Zf, Zg, Zh, Zi, Nat.reduceSub, Zk, Zq, Zr, i_syntax_Depth, c49_0, c49_1, c49_2, c49_3, c49_4, c49_5, c49_6, c49_7, c49_8, c49_9, c49_10, c49_11, c49_12, c49_13]
  refine RunV.to (high_ok (T.cnts ar) ar (by omega) (by omega) _ _ _ _ _ (hA.sub (sub_push hW _))) ?_
  simp -implicitDefEqProofs (maxDischargeDepth := 15) only [Yr, Ys, Yt, Wj, Wk, Wm, Wo, Wu, opA, Wv, Ww, Wx, Wy, Wz, Za, Zb, Vb, Vg, partA, Zk, Zq, Zr]
  have hG0 : Grow σ (σ.push (.cells [.int .u8 op, .str nm, .slice o1 ar.length c1 z1, .slice o2 l.length c2 z2] true)) := (Grow.refl hW).push _
  have h0 : max (T.highs ar) (F.depths (l.take 0)) = T.highs ar := by simp [F.depths]
  refine wp_loop (fun ts σ' m => ∃ k a : Nat, a = max (T.highs ar) (F.depths (l.take k)) ∧ Grow σ σ' ∧ k + m = l.length ∧ ∃ j4 j5 j6 j7 j8 j9 j13 j14 j15 j16 j17 j18 j19 j20 j21 j22 : AV, ts = [.agg [.int .u8 op, .str nm, .slice o1 ar.length c1 z1, .slice o2 l.length c2 z2], .ptr (some (σ.next, 0)), .int .i64 0, .int .i64 a, j4, j5, j6, j7, j8, j9, .slice o2 l.length c2 z2, .int .i64 l.length, .int .i64 k, j13, j14, j15, j16, j17, j18, j19, j20, j21, j22]) l.length ⟨0, T.highs ar, h0.symm, hG0, by omega, _, _, _, _, _, _, _, _, _, _, _, _, _, _, _, _, rfl⟩ ?_
  rintro m' ts σ' ⟨k, a, ha, hG, hk, j4, j5, j6, j7, j8, j9, j13, j14, j15, j16, j17, j18, j19, j20, j21, j22, rfl⟩
  by_cases hlt : k < l.length
  · obtain ⟨t, ht, htm⟩ := get_lt (l := l) (k := k) (by omega)
    obtain ⟨rfl, i, off, cs, w, rfl, hg, hlen3, xs, hxs, hd2⟩ := (hL.sub hG.sub).elem ht
    have hnt := nodes_mem htm
    obtain ⟨op', nm', ar', l'⟩ := t
    have hd3 := hd2
    obtain ⟨o1', c1', z1', o2', c2', z2', rfl, _, _⟩ := F.cells hd2
    have hi := hG.wf.lt hg
    have hd : decide ((k : Int) < l.length) = true := decide_eq_true (by omega)
    have e1 : (0 : Int) ≤ (k : Int) ∧ (k : Int) < (l.length : Int) := by omega
    simp -implicitDefEqProofs (maxDischargeDepth := 15) only [↓reduceIte, Yr, Ys, Yt, Yz, Wb, Wg, Wj, Wk, Wl, Wm, Wo, Wp, Wq, Ws, Wt, opA, Wv, Ww, Wx, Wy, Wz, Va, Za, Zb, Zd, Ze, Vb, Vc, Vd, Ve, AV.cells, Vg, Vn, partA, Zf, Zg, Zh, Zi, Nat.reduceAdd, Zj, Zk, Zm, Zn, Zo, Zp, Zs, Zt, binA, putL, allOne, Zu, Zv, AV.one, Zy, and_self, EndOk, resultA, oneOf, Zz, Yf, eq_self, Yp, e1, hg, hlen3, hxs]
    refine RunV.to (ih _ (by omega) _ (Nat.le_refl _) (by omega) _ _ (DAtL.sub (sub_push hG.wf _) _ _ hd3)) ?_
    simp -implicitDefEqProofs (maxDischargeDepth := 15) only [↓reduceIte, Yr, Ys, Yt, Wj, Wo, Wr, Wu, opA, Wv, Ww, Wx, Wy, Wz, Za, Zb, Vb, Zh, Zi, binA, eq_self, maxA]
    rw [wrap_i64 (n := (k : Int) + 1) (by omega)]
    have hmax : (if ((F.mk op' nm' ar' l').depth : Int) > (a : Int) then ((F.mk op' nm' ar' l').depth : Int) else (a : Int)) = ((max (T.highs ar) (F.depths (l.take (k + 1))) : Nat) : Int) := by
      rw [depths_take ht, ha]
      split <;> omega
    rw [hmax]
    exact ⟨m' - 1, by omega, k + 1, _, rfl, hG.push _, by omega, _, _, _, _, _, _, _, _, _, _, _, _, _, _, _, _, rfl⟩
  · have hd : decide ((k : Int) < l.length) = false := decide_eq_false (by omega)
    simp -implicitDefEqProofs (maxDischargeDepth := 15) only [↓reduceIte, Yr, Ys, Yt, Wa, Wh, Wi, Wj, Wk, Wl, Wo, Wp, Wq, Ws, Wt, opA, Wv, Ww, Wx, Wy, Wz, Za, Zb, Vb, binA, EndOk, resultA, oneOf, Zz, eq_self, hd]
    have : l.take k = l := List.take_of_length_le (by omega)
    rw [this] at ha
    rw [wrap_i64 (by omega)]
    exact ⟨by simp [F.depth, ha], hG.sub⟩
structure Iter {S : Type} (St : S → AState → Prop) (Own : Nat → Prop) : Prop where
  own : ∀ s σ i, St s σ → Own i → ∃ b, σ.get i = some b
  frame : ∀ s σ σ', St s σ → (∀ i, Own i → σ'.get i = σ.get i) → St s σ'
structure Kept (Own : Nat → Prop) (σ σ' : AState) : Prop where
  le : σ.next ≤ σ'.next
  keep : ∀ i b, ¬ Own i → σ.get i = some b → σ'.get i = some b
  wf : σ'.Wf
theorem Kept.refl {Own : Nat → Prop} {σ : AState} (h : σ.Wf) : Kept Own σ σ := ⟨Nat.le_refl _, fun _ _ _ e => e, h⟩
theorem Kept.trans {Own : Nat → Prop} {a b c : AState} (h : Kept Own a b) (k : Kept Own b c) : Kept Own a c := ⟨Nat.le_trans h.le k.le, fun i x n e => k.keep i x n (h.keep i x n e), k.wf⟩
theorem Kept.push {Own : Nat → Prop} {a b : AState} (h : Kept Own a b) (x : ABlk) : Kept Own a (b.push x) := ⟨Nat.le_succ_of_le h.le, fun i y n e => (Ext.push h.wf x).2 i y (h.keep i y n e), h.wf.push x⟩
theorem Iter.push {S : Type} {St : S → AState → Prop} {Own : Nat → Prop} (h : Iter St Own) {s : S} {σ : AState} (hW : σ.Wf) (hs : St s σ) (b : ABlk) : St s (σ.push b) :=
  h.frame s σ _ hs fun i hi => by
    obtain ⟨x, hx⟩ := h.own s σ i hs hi
    exact Vh (hW.lt hx)
def YF {S : Type} (St : S → AState → Prop) (step : S → F → S) (Own : Nat → Prop) (y : AV) (ok : F → Prop) : Prop :=
  ∀ s σ xs f, ok f → St s σ → σ.Wf → DAtL σ.get f.dv xs → RunV RR Tryz.prog y [.agg xs] σ (fun u σ' => u = .bool true ∧ St (step s f) σ' ∧ Kept Own σ σ')
def YT {S : Type} (St : S → AState → Prop) (step : S → T → S) (Own : Nat → Prop) (y : AV) : Prop :=
  ∀ s σ xs t, St s σ → σ.Wf → DAtL σ.get t.dv xs → RunV RR Tryz.prog y [.agg xs] σ (fun u σ' => u = .bool true ∧ St (step s t) σ' ∧ Kept Own σ σ')
def Free (Own : Nat → Prop) (g : Mem) : Prop := ∀ i b, g i = some b → ¬ Own i
theorem Kept.sub {Own : Nat → Prop} {σ σ' : AState} {g : Mem} (h : Kept Own σ σ') (hf : Free Own g) (hs : Sub g σ.get) : Sub g σ'.get := fun i b e => h.keep i b (hf i b e) (hs i b e)
end Go.Am
namespace Go.Am
open Go.RowKit Go.Proofs Do
set_option maxRecDepth 100000
section
variable {S : Type}
mutual
def Do.F.fold (step : S → F → S) (s : S) : F → S
  | .mk op n ar l => F.folds step (step s (.mk op n ar l)) l
def Do.F.folds (step : S → F → S) (s : S) : List F → S
  | [] => s
  | f :: r => F.folds step (F.fold step s f) r
end
mutual
def Do.T.fold (step : S → T → S) (s : S) : T → S
  | .mk v n ar => T.folds step (step s (.mk v n ar)) ar
def Do.T.folds (step : S → T → S) (s : S) : List T → S
  | [] => s
  | f :: r => T.folds step (T.fold step s f) r
end
theorem ffolds_take (step : S → F → S) : ∀ {l : List F} {s : S} {k : Nat} {t : F}, l[k]? = some t → F.folds step s (l.take (k + 1)) = F.fold step (F.folds step s (l.take k)) t
  | [], s, k, t, h => by simp at h
  | a :: r, s, 0, t, h => by simp only [List.getElem?_cons_zero, Option.some.injEq] at h; subst h; simp [F.folds]
  | a :: r, s, k + 1, t, h => by
    simp only [List.getElem?_cons_succ] at h
    simp only [List.take_succ_cons, F.folds]
    exact ffolds_take step h
theorem tfolds_take (step : S → T → S) : ∀ {l : List T} {s : S} {k : Nat} {t : T}, l[k]? = some t → T.folds step s (l.take (k + 1)) = T.fold step (T.folds step s (l.take k)) t
  | [], s, k, t, h => by simp at h
  | a :: r, s, 0, t, h => by simp only [List.getElem?_cons_zero, Option.some.injEq] at h; subst h; simp [T.folds]
  | a :: r, s, k + 1, t, h => by
    simp only [List.getElem?_cons_succ] at h
    simp only [List.take_succ_cons, T.folds]
    exact tfolds_take step h
end
theorem Iter.lt {S : Type} {St : S → AState → Prop} {Own : Nat → Prop} (h : Iter St Own) {s : S} {σ : AState} (hW : σ.Wf) (hs : St s σ) {i : Nat} (hi : Own i) : i < σ.next := by
  obtain ⟨b, hb⟩ := h.own s σ i hs hi
  exact hW.lt hb
def YF' {S : Type} (St : S → AState → Prop) (step : S → F → S) (Own : Nat → Prop) (y : AV) : Prop :=
  ∀ s σ g xs f, F.nodes f ≤ 1152921504606846976 → St s σ → σ.Wf → Sub g σ.get → Free Own g → DAtL g f.dv xs → RunV RR Tryz.prog y [.agg xs] σ (fun u σ' => u = .bool true ∧ St (step s f) σ' ∧ Kept Own σ σ')
def YT' {S : Type} (St : S → AState → Prop) (step : S → T → S) (Own : Nat → Prop) (y : AV) : Prop :=
  ∀ s σ g xs t, T.cnt t ≤ 1152921504606846976 → St s σ → σ.Wf → Sub g σ.get → Free Own g → DAtL g t.dv xs → RunV RR Tryz.prog y [.agg xs] σ (fun u σ' => u = .bool true ∧ St (step s t) σ' ∧ Kept Own σ σ')
theorem every_ok {S : Type} {St : S → AState → Prop} {step : S → F → S} {Own : Nat → Prop} {y : Nat} (hI : Iter St Own) (hy : YF' St step Own (.yieldf y)) : ∀ (m : Nat) (f : F), f.nodes ≤ m → m ≤ 1152921504606846976 →
    ∀ (s : S) (σ : AState) (g : Mem) (xs : List AV), St s σ → Sub g σ.get → Free Own g → DAtL g f.dv xs →
    RunF RR Tryz.prog n_syntax_every [.agg xs, .yieldf y] σ (fun u σ' => u = .bool true ∧ St (F.fold step s f) σ' ∧ Kept Own σ σ') := by
  intro m
  induction m using Nat.strongRecOn with
  | _ m ih =>
  intro f hf hm s σ g xs hS hg0 hfree hD
  refine RunV.wf fun hW => ?_
  refine runF_intro hmx rf_syntax_every ?_
  have hOl : ∀ i, Own i → i < σ.next := fun i hi => hI.lt hW hS hi
  have hOn : ¬ Own σ.next := fun h => by have := hOl _ h; omega
  obtain ⟨op, nm, ar, l⟩ := f
  have hD2 := hD
  obtain ⟨o1, c1, z1, o2, c2, z2, rfl, hA, hL⟩ := F.cells hD
  have hf' := hf
  simp only [F.nodes] at hf
  have hlen := nodess_len l
  simp -implicitDefEqProofs (maxDischargeDepth := 15) only [↓reduceIte, Yr, Ys, Yt, Wb, Wj, Wk, Wo, opA, Wv, Ww, Wx, Wy, Wz, Za, Zb, List.replicate, Zc, Zd, Ze, Vb, Vc, Vd, AV.cells, Vg, partA, Zf, Zg, Zh, Zi, Nat.reduceAdd, Nat.reduceSub, Zj, Zk, Zm, Zo, Zt, i_syntax_every, c3_0, c3_1, c3_2, c3_3, c3_4, c3_5, c3_6, c3_7, c3_8, c3_9, c3_10, c3_11, c3_12, c3_13, c3_14, c3_15, c3_16, c3_17]
  refine (hy s _ g _ (.mk op nm ar l) (by omega) (hI.push hW hS _) (hW.push _) (hg0.trans (sub_push hW _)) hfree hD2).mono ?_
  rintro u σ1 ⟨rfl, hS1, hK1⟩
  have hbox := hK1.keep σ.next _ hOn Vg
  have hbl := hK1.wf.lt hbox
  simp -implicitDefEqProofs (maxDischargeDepth := 15) only [Yr, Ys, Yt, Wa, Wg, Wj, Wk, Wl, Wm, Wo, Wu, opA, Wv, Ww, Wx, Wy, Wz, Za, Zb, Vb, partA, Zk, Zq, Zr, Yb, hbox]
  refine wp_loop (fun ts σ' m => ∃ k : Nat, St (F.folds step (step s (.mk op nm ar l)) (l.take k)) σ' ∧ Kept Own (σ.push (.cells [.int .u8 op, .str nm, .slice o1 ar.length c1 z1, .slice o2 l.length c2 z2] true)) σ' ∧ k + m = l.length ∧ ∃ j0 j3 j5 j6 j7 j8 j9 j10 j11 j15 j16 j17 j18 j19 j20 j21 j22 : AV, ts = [j0, .yieldf y, .ptr (some (σ.next, 0)), j3, .bool false, j5, j6, j7, j8, j9, j10, j11, .slice o2 l.length c2 z2, .int .i64 l.length, .int .i64 k, j15, j16, j17, j18, j19, j20, j21, j22]) l.length ⟨0, hS1, hK1, by omega, _, _, _, _, _, _, _, _, _, _, _, _, _, _, _, _, _, rfl⟩ ?_
  rintro m' ts σ' ⟨k, hSk, hK, hk, j0, j3, j5, j6, j7, j8, j9, j10, j11, j15, j16, j17, j18, j19, j20, j21, j22, rfl⟩
  have hgk : Sub g σ'.get := hK.sub hfree (hg0.trans (sub_push hW _))
  by_cases hlt : k < l.length
  · obtain ⟨t, ht, htm⟩ := get_lt (l := l) (k := k) (by omega)
    obtain ⟨rfl, i, off, cs, w, rfl, hg, hlen3, xs, hxs, hd2⟩ := hL.elem ht
    have hgi := hgk _ _ hg
    have hnt := nodes_mem htm
    obtain ⟨op', nm', ar', l'⟩ := t
    have hd3 := hd2
    obtain ⟨o1', c1', z1', o2', c2', z2', rfl, _, _⟩ := F.cells hd2
    have hi := hK.wf.lt hgi
    have hd : decide ((k : Int) < l.length) = true := decide_eq_true (by omega)
    have e1 : (0 : Int) ≤ (k : Int) ∧ (k : Int) < (l.length : Int) := by omega
    simp -implicitDefEqProofs (maxDischargeDepth := 15) only [↓reduceIte, Yr, Ys, Yt, Yz, Wb, Wg, Wh, Wj, Wk, Wl, Wm, Wo, Wp, Wq, Ws, Wt, opA, Wv, Ww, Wx, Wy, Wz, Va, Za, Zb, Zd, Ze, Vb, Vc, Vd, Ve, AV.cells, Vg, Vn, partA, Zf, Zg, Zh, Zi, Nat.reduceAdd, Zj, Zk, Zm, Zn, Zo, Zp, Zs, Zt, binA, putL, allOne, Zu, Zv, AV.one, Zy, and_self, EndOk, resultA, oneOf, Zz, Yf, eq_self, Yp, e1, hgi, hlen3, hxs]
    refine (ih _ (by omega) _ (Nat.le_refl _) (by omega) _ _ g _ (hI.push hK.wf hSk _) (hgk.trans (sub_push hK.wf _)) hfree hd3).mono ?_
    rintro u σ2 ⟨rfl, hS2, hK2⟩
    simp -implicitDefEqProofs (maxDischargeDepth := 15) only [↓reduceIte, Yr, Ys, Yt, Wa, Wg, Wj, Wl, Wo, Wr, Wu, opA, Wv, Ww, Wx, Wy, Wz, Za, Zb, Vb, binA, Yb, eq_self]
    rw [wrap_i64 (n := (k : Int) + 1) (by omega)]
    refine ⟨m' - 1, by omega, k + 1, ?_, (hK.push _).trans hK2, by omega, _, _, _, _, _, _, _, _, _, _, _, _, _, _, _, _, _, rfl⟩
    rw [ffolds_take step ht]
    exact hS2
  · have hd : decide ((k : Int) < l.length) = false := decide_eq_false (by omega)
    simp -implicitDefEqProofs (maxDischargeDepth := 15) only [↓reduceIte, Yr, Ys, Yt, Wa, Wh, Wi, Wj, Wk, Wl, Wo, Wp, Wq, Ws, Wt, opA, Wv, Ww, Wx, Wy, Wz, Za, Zb, Vb, binA, true_and, EndOk, resultA, oneOf, Zz, eq_self, hd]
    have : l.take k = l := List.take_of_length_le (by omega)
    rw [this] at hSk
    exact ⟨hSk, ((Kept.refl hW).push _).trans hK⟩
theorem all_ok (σ : AState) (xs : List AV) : RunF RR Tryz.prog n_syntax_all [.agg xs] σ (fun u σ' => u = .func (.func n_syntax_allS1) [] [.ptr (some (σ.next, 0))] ∧ σ' = σ.push (.cells xs true)) := by
  refine runF_intro hmx rf_syntax_all ?_
  simp -implicitDefEqProofs (maxDischargeDepth := 15) only [Yr, Ys, Yt, Wh, Wj, Wk, Wo, opA, Wv, Ww, Wx, Wy, Wz, Za, Zb, List.replicate, Zc, Zd, Ze, Vb, Vc, Vd, AV.cells, Zf, Zg, Zh, Zi, Nat.reduceSub, Zk, and_self, EndOk, resultA, oneOf, Zz, eq_self, i_syntax_all, c41_0, c41_1]
theorem terms_ok (σ : AState) (o : Option (Nat × Nat)) (n : Nat) (c : Option Nat) (z : Nat) : RunF RR Tryz.prog n_syntax_terms [.slice o n c z] σ (fun u σ' => u = .func (.func n_syntax_termsS1) [] [.ptr (some (σ.next, 0))] ∧ σ' = σ.push (.cells [.slice o n c z] true)) := by
  refine runF_intro hmx rf_syntax_terms ?_
  simp -implicitDefEqProofs (maxDischargeDepth := 15) only [Yr, Ys, Yt, Wh, Wj, Wk, Wo, opA, Wv, Ww, Wx, Wy, Wz, Za, Zb, List.replicate, Zc, Zd, Ze, Vb, Vc, Vd, AV.cells, Zf, Zg, Zh, Zi, Nat.reduceSub, Zk, and_self, EndOk, resultA, oneOf, Zz, eq_self, i_syntax_terms, c19_0, c19_1]
theorem allS1_ok {S : Type} {St : S → AState → Prop} {step : S → F → S} {Own : Nat → Prop} {y : Nat} (hI : Iter St Own) (hy : YF' St step Own (.yieldf y)) (f : F) (hf : f.nodes ≤ 1152921504606846976)
    (s : S) (σ : AState) (g : Mem) (xs : List AV) (b : Nat) (hS : St s σ) (hg : Sub g σ.get) (hfree : Free Own g) (hD : DAtL g f.dv xs) (hb : σ.get b = some (.cells xs true)) :
    RunV RR Tryz.prog (.func (.func n_syntax_allS1) [] [.ptr (some (b, 0))]) [.yieldf y] σ (fun u σ' => St (F.fold step s f) σ' ∧ Kept Own σ σ') := by
  refine runF_intro hmx rf_syntax_allS1 ?_
  have hl : 4 ≤ xs.length := by rw [hD.length, F.dv_len]; omega
  have ht : xs.take 4 = xs := List.take_of_length_le (by rw [hD.length, F.dv_len]; omega)
  simp -implicitDefEqProofs (maxDischargeDepth := 15) only [↓reduceIte, Ys, Yt, Wb, Wj, opA, Wv, Ww, Wx, Wy, Wz, Za, Zb, List.replicate, Zc, Zd, Vb, partA, Zf, Zg, Zh, Zi, Nat.reduceAdd, Nat.reduceSub, Zk, Zm, i_syntax_allS1, c66_0, hb, hl, ht]
  refine (every_ok hI hy _ f (Nat.le_refl _) hf s σ g xs hS hg hfree hD).mono ?_
  rintro u σ' ⟨rfl, h1, h2⟩
  simp -implicitDefEqProofs (maxDischargeDepth := 15) only [Yr, Wu, Wz, Za, Zb, EndOk, resultA]
  exact ⟨h1, h2⟩
end Go.Am
