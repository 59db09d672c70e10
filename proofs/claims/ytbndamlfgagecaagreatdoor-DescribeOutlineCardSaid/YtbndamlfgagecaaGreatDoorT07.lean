/-
  A PART of the proof: DoW17, DoW18, DoW19, DoW20, DoW21, DoW22, DoCut, DoW23.
-/
import Derived.Test.YtbndamlfgagecaaGreatDoorT06
import Derived.Shelf.Strings.Cut
import Derived.WalkSmall
import Derived.Test.YtbndamlfgagecaaGreatDoorT02
import Derived.Test.YtbndamlfgagecaaGreatDoorChecked
import Derived.Test.YtbndamlfgagecaaGreatDoorT05
set_option linter.unusedSimpArgs false
set_option linter.unusedVariables false
namespace Go.Am
open Go.RowKit Go.Proofs Do
set_option maxRecDepth 100000
theorem bsw3 {e : Nat} {σ1 σ' : AState} {v0 p2 : AV} {k : Nat} {so : Option (Nat × Nat)} {sn : Nat} {sc : Option Nat} {sz : Nat} {s : List F} {cs : List AV} (hS : Stk e σ1 σ' so sn sc sz s cs) (hsn : sn ≤ 20) {x : Nat} (hx : x < 256) (hr : x % 12 = 4) {j1 j8 j9 j10 j11 j12 j13 j14 j15 j16 j17 j18 j19 j20 j21 j22 j23 j24 j25 j26 j27 j28 j29 j30 j31 j32 j33 j34 j35 j36 j37 j38 j39 j40 j41 j42 j43 j44 j45 j46 j47 j48 j49 j50 j51 j52 j53 j54 j55 j56 j57 j58 j59 j60 j61 j62 j63 j64 j65 j66 j67 j68 j69 j70 j71 j72 j73 j74 j75 j76 j77 j78 j79 j80 j81 j82 j83 j84 j85 j86 j87 j88 j89 j90 j91 j92 j93 j94 j95 j96 j97 j98 j99 j100 j101 j102 j103 j104 j105 j106 j107 j108 j109 j110 j111 j112 j113 j114 j115 j116 j117 j118 j119 j120 j121 j122 j123 j124 j125 j126 j127 j128 j129 j130 j131 j132 j133 j134 j135 j136 j137 j138 j139 j140 j141 j142 j143 j144 j145 j146 j147 j148 j149 j150 j151 j152 j153 j154 j155 j156 j157 j158 j159 j160 j161 j162 j163 j164 j165 j166 j167 j168 j169 j170 j171 j172 j173 j174 j175 j176 j177 j178 j179 j180 j181 j182 j183 j184 j185 j186 j187 j188 j189 j190 j191 : AV} {Q : Ex → List AV → AState → Prop}
    (hQ : ∀ (σ'' : AState) (so' : Option (Nat × Nat)) (sn' : Nat) (sc' : Option Nat) (sz' : Nat) (cs' : List AV) (j1 j5 j6 j7 j8 j9 j10 j11 j12 j13 j14 j15 j16 j17 j18 j19 j20 j21 j22 j23 j24 j25 j26 j27 j28 j29 j30 j31 j32 j33 j34 j35 j36 j37 j38 j39 j40 j41 j42 j43 j44 j45 j46 j47 j48 j49 j50 j51 j52 j53 j54 j55 j56 j57 j58 j59 j60 j61 j62 j63 j64 j65 j66 j67 j68 j69 j70 j71 j72 j73 j74 j75 j76 j77 j78 j79 j80 j81 j82 j83 j84 j85 j86 j87 j88 j89 j90 j91 j92 j93 j94 j95 j96 j97 j98 j99 j100 j101 j102 j103 j104 j105 j106 j107 j108 j109 j110 j111 j112 j113 j114 j115 j116 j117 j118 j119 j120 j121 j122 j123 j124 j125 j126 j127 j128 j129 j130 j131 j132 j133 j134 j135 j136 j137 j138 j139 j140 j141 j142 j143 j144 j145 j146 j147 j148 j149 j150 j151 j152 j153 j154 j155 j156 j157 j158 j159 j160 j161 j162 j163 j164 j165 j166 j167 j168 j169 j170 j171 j172 j173 j174 j175 j176 j177 j178 j179 j180 j181 j182 j183 j184 j185 j186 j187 j188 j189 j190 j191 : AV), Stk e σ1 σ'' so' sn' sc' sz' (bStep s x) cs' → sn' ≤ sn + 1 → Q .normal [v0, j1, p2, .slice so' sn' sc' sz', .int .i64 k, j5, j6, j7, j8, j9, j10, j11, j12, j13, j14, j15, j16, j17, j18, j19, j20, j21, j22, j23, j24, j25, j26, j27, j28, j29, j30, j31, j32, j33, j34, j35, j36, j37, j38, j39, j40, j41, j42, j43, j44, j45, j46, j47, j48, j49, j50, j51, j52, j53, j54, j55, j56, j57, j58, j59, j60, j61, j62, j63, j64, j65, j66, j67, j68, j69, j70, j71, j72, j73, j74, j75, j76, j77, j78, j79, j80, j81, j82, j83, j84, j85, j86, j87, j88, j89, j90, j91, j92, j93, j94, j95, j96, j97, j98, j99, j100, j101, j102, j103, j104, j105, j106, j107, j108, j109, j110, j111, j112, j113, j114, j115, j116, j117, j118, j119, j120, j121, j122, j123, j124, j125, j126, j127, j128, j129, j130, j131, j132, j133, j134, j135, j136, j137, j138, j139, j140, j141, j142, j143, j144, j145, j146, j147, j148, j149, j150, j151, j152, j153, j154, j155, j156, j157, j158, j159, j160, j161, j162, j163, j164, j165, j166, j167, j168, j169, j170, j171, j172, j173, j174, j175, j176, j177, j178, j179, j180, j181, j182, j183, j184, j185, j186, j187, j188, j189, j190, j191] σ'') :
    wpC RR Tryz.prog c0_31 [v0, j1, p2, .slice so sn sc sz, .int .i64 k, .int .i64 sn, .int .u8 (x / 12 : Nat), .int .u8 (x % 12 : Nat), j8, j9, j10, j11, j12, j13, j14, j15, j16, j17, j18, j19, j20, j21, j22, j23, j24, j25, j26, j27, j28, j29, j30, j31, j32, j33, j34, j35, j36, j37, j38, j39, j40, j41, j42, j43, j44, j45, j46, j47, j48, j49, j50, j51, j52, j53, j54, j55, j56, j57, j58, j59, j60, j61, j62, j63, j64, j65, j66, j67, j68, j69, j70, j71, j72, j73, j74, j75, j76, j77, j78, j79, j80, j81, j82, j83, j84, j85, j86, j87, j88, j89, j90, j91, j92, j93, j94, j95, j96, j97, j98, j99, j100, j101, j102, j103, j104, j105, j106, j107, j108, j109, j110, j111, j112, j113, j114, j115, j116, j117, j118, j119, j120, j121, j122, j123, j124, j125, j126, j127, j128, j129, j130, j131, j132, j133, j134, j135, j136, j137, j138, j139, j140, j141, j142, j143, j144, j145, j146, j147, j148, j149, j150, j151, j152, j153, j154, j155, j156, j157, j158, j159, j160, j161, j162, j163, j164, j165, j166, j167, j168, j169, j170, j171, j172, j173, j174, j175, j176, j177, j178, j179, j180, j181, j182, j183, j184, j185, j186, j187, j188, j189, j190, j191] σ' Q := by
  have hb : bStep s x = s ++ [bAtom 82 [bTerm (x / 12), bTerm (x / 12 / 3)]] := by unfold bStep; rw [if_neg (by omega), if_neg (by omega), if_pos hr]
  have c1 : decide (((x % 12 : Nat) : Int) < 2) = false := decide_eq_false (by omega)
  have c2 : decide (((x % 12 : Nat) : Int) < 4) = false := decide_eq_false (by omega)
  have c3 : (((x % 12 : Nat) : Int) == 4) = true := by simp only [beq_iff_eq]; omega
  have d3 : wrapF .u8 (((x / 12 : Nat) : Int).tdiv 3) = ((x / 12 / 3 : Nat) : Int) := by rw [show (3 : Int) = ((3 : Nat) : Int) from rfl, tdivN, wrap_u8 (by omega)]
  have z3 : ((3 : Int) = 0) = False := by simp
  simp -implicitDefEqProofs (maxDischargeDepth := 15) only [↓reduceIte, Yr, Ys, Yt, Yu, Yv, Yw, Yx, Yy, Yz, Wa, Wb, Wc, Wd, We, Wf, Wg, Wh, Wi, Wj, Wk, Wl, Wm, Wn, Wo, Wp, Wq, Wr, Ws, Wt, Wu, opA, Wv, Ww, Wx, Wy, Wz, Va, Za, Zb, List.replicate, Zc, Zd, Ze, Vb, Vc, Vd, Ve, Vf, AV.cells, Vg, Vh, Vi, Vj, AState.set_next, AState.kill_next, Vk, Vl, Vm, Vn, Vo, Vp, Vq, Vr, Vs, Vt, partA, Zf, Zg, Zh, Zi, if_true, if_false, Nat.reduceAdd, Nat.reduceLeDiff, Nat.reduceSub, Zj, Nat.zero_le, Zk, Zl, Zm, Zn, Zo, Zp, Zq, Zr, Zs, Zt, binA, eqA, kEq, nilEq, fillA, putL, allOne, Zu, Zv, AV.one, Zw, Zx, Zy, and_self, and_true, true_and, lenA, firstA, EndOk, resultA, oneOf, Zz, Ya, Yb, Yc, Yd, Ye, reduceCtorEq, Yf, Yg, natOf, upTo, bMax, bHigh, bLow, boundsA, evO, Yh, Yi, againOk, Vu, Vv, Vw, Yj, Yk, eq_self, Yl, Ym, Yn, setPs, or_true, true_or, false_or, or_false, ne_eq, Yo, Vx, Vy, Yp, Yq, i_law30_Built, c0_0, c0_1, c0_2, c0_3, c0_4, c0_5, c0_6, c0_7, c0_8, c0_9, c0_10, c0_11, c0_12, c0_13, c0_14, c0_15, c0_16, c0_17, c0_18, c0_19, c0_20, c0_21, c0_22, c0_23, c0_24, c0_25, c0_26, c0_27, c0_28, c0_29, c0_30, c0_31, c0_32, c0_33, c0_34, c0_35, c0_36, c0_37, c0_38, c0_39, c0_40, c0_41, c0_42, c0_43, c0_44, c0_45, c0_46, c0_47, c0_48, c0_49, c0_50, c0_51, c0_52, c0_53, c0_54, c0_55, c0_56, c0_57, c1, c2, c3]
  refine (bterm_ok (x / 12) (by omega) _).mono ?_
  rintro u σ2 ⟨xs, rfl, hd, hG⟩
  have hS2 := hS.grow hG
  have hd2 := DAtL.sub (sub_newer (so := so) (fun i hi => hS.lt i hi) hS.el) _ _ hd
  have hxl : xs.length = 3 := by rw [hd.length, T.dv_len]
  obtain ⟨v, nm, ar, et⟩ := term_is (bTerm (x / 12))
  rw [et] at hd hd2
  obtain ⟨o1, q1, z1, rfl, _⟩ := T.cells hd
  simp -implicitDefEqProofs (maxDischargeDepth := 15) only [↓reduceIte, Yr, Ys, Yt, Yu, Yv, Yw, Yx, Yy, Yz, Wa, Wb, Wc, Wd, We, Wf, Wg, Wh, Wi, Wj, Wk, Wl, Wm, Wn, Wo, Wp, Wq, Wr, Ws, Wt, Wu, opA, Wv, Ww, Wx, Wy, Wz, Va, Za, Zb, List.replicate, Zc, Zd, Ze, Vb, Vc, Vd, Ve, Vf, AV.cells, Vg, Vh, Vi, Vj, AState.set_next, AState.kill_next, Vk, Vl, Vm, Vn, Vo, Vp, Vq, Vr, Vs, Vt, partA, Zf, Zg, Zh, Zi, if_true, if_false, Nat.reduceAdd, Nat.reduceLeDiff, Nat.reduceSub, Zj, Nat.zero_le, Zk, Zl, Zm, Zn, Zo, Zp, Zq, Zr, Zs, Zt, binA, eqA, kEq, nilEq, fillA, putL, allOne, Zu, Zv, AV.one, Zw, Zx, Zy, and_self, and_true, true_and, lenA, firstA, EndOk, resultA, oneOf, Zz, Ya, Yb, Yc, Yd, Ye, reduceCtorEq, Yf, Yg, natOf, upTo, bMax, bHigh, bLow, boundsA, evO, Yh, Yi, againOk, Vu, Vv, Vw, Yj, Yk, eq_self, Yl, Ym, Yn, setPs, or_true, true_or, false_or, or_false, ne_eq, Yo, Vx, Vy, Yp, Yq, i_law30_Built, c0_0, c0_1, c0_2, c0_3, c0_4, c0_5, c0_6, c0_7, c0_8, c0_9, c0_10, c0_11, c0_12, c0_13, c0_14, c0_15, c0_16, c0_17, c0_18, c0_19, c0_20, c0_21, c0_22, c0_23, c0_24, c0_25, c0_26, c0_27, c0_28, c0_29, c0_30, c0_31, c0_32, c0_33, c0_34, c0_35, c0_36, c0_37, c0_38, c0_39, c0_40, c0_41, c0_42, c0_43, c0_44, c0_45, c0_46, c0_47, c0_48, c0_49, c0_50, c0_51, c0_52, c0_53, c0_54, c0_55, c0_56, c0_57, d3, z3]
  refine (bterm_ok (x / 12 / 3) (by omega) _).mono ?_
  rintro u σ3 ⟨ys, rfl, hd', hG3⟩
  have hS3 := hS2.grow hG3
  have hd2' := DAtL.sub (sub_newer (so := so) (fun i hi => hS2.lt i hi) hS2.el) _ _ hd'
  obtain ⟨v', nm', ar', et'⟩ := term_is (bTerm (x / 12 / 3))
  rw [et'] at hd' hd2'
  obtain ⟨o1', q1', z1', rfl, _⟩ := T.cells hd'
  have hd23 := DAtL.sub (but_sub (so := so) hG3.sub) _ _ hd2
  simp -implicitDefEqProofs (maxDischargeDepth := 15) only [↓reduceIte, Yr, Ys, Yt, Yu, Yv, Yw, Yx, Yy, Yz, Wa, Wb, Wc, Wd, We, Wf, Wg, Wh, Wi, Wj, Wk, Wl, Wm, Wn, Wo, Wp, Wq, Wr, Ws, Wt, Wu, opA, Wv, Ww, Wx, Wy, Wz, Va, Za, Zb, List.replicate, Zc, Zd, Ze, Vb, Vc, Vd, Ve, Vf, AV.cells, Vg, Vh, Vi, Vj, AState.set_next, AState.kill_next, Vk, Vl, Vm, Vn, Vo, Vp, Vq, Vr, Vs, Vt, partA, Zf, Zg, Zh, Zi, if_true, if_false, Nat.reduceAdd, Nat.reduceLeDiff, Nat.reduceSub, Zj, Nat.zero_le, Zk, Zl, Zm, Zn, Zo, Zp, Zq, Zr, Zs, Zt, binA, eqA, kEq, nilEq, fillA, putL, allOne, Zu, Zv, AV.one, Zw, Zx, Zy, and_self, and_true, true_and, lenA, firstA, EndOk, resultA, oneOf, Zz, Ya, Yb, Yc, Yd, Ye, reduceCtorEq, Yf, Yg, natOf, upTo, bMax, bHigh, bLow, boundsA, evO, Yh, Yi, againOk, Vu, Vv, Vw, Yj, Yk, eq_self, Yl, Ym, Yn, setPs, or_true, true_or, false_or, or_false, ne_eq, Yo, Vx, Vy, Yp, Yq, i_law30_Built, c0_0, c0_1, c0_2, c0_3, c0_4, c0_5, c0_6, c0_7, c0_8, c0_9, c0_10, c0_11, c0_12, c0_13, c0_14, c0_15, c0_16, c0_17, c0_18, c0_19, c0_20, c0_21, c0_22, c0_23, c0_24, c0_25, c0_26, c0_27, c0_28, c0_29, c0_30, c0_31, c0_32, c0_33, c0_34, c0_35, c0_36, c0_37, c0_38, c0_39, c0_40, c0_41, c0_42, c0_43, c0_44, c0_45, c0_46, c0_47, c0_48, c0_49, c0_50, c0_51, c0_52, c0_53, c0_54, c0_55, c0_56, c0_57]
  have hW3 := hS3.grown.wf
  generalize hσ4 : σ3.push (.cells [.bool v, .str nm, .slice o1 ar.length q1 z1, .bool v', .str nm', .slice o1' ar'.length q1' z1'] true) = σ4
  have hS4 : Stk e σ1 σ4 so sn sc sz s cs := by rw [← hσ4]; exact hS3.push _
  have hd4 : DAt (but e σ4 so) (.sl 3 2 (T.dvs [bTerm (x / 12), bTerm (x / 12 / 3)])) (.slice (some (σ3.next, 0)) 2 (some 2) 3) := by
    refine dat_sl (cs := [.bool v, .str nm, .slice o1 ar.length q1 z1] ++ [.bool v', .str nm', .slice o1' ar'.length q1' z1']) (w := true) (some 2) (but_mk (fun q => by have := hS3.lt _ q; omega) (by rw [← hσ4, Vg]; rfl) (by have := hS3.el; omega)) rfl ?_
    show DAtL _ ((bTerm (x / 12)).dv ++ ((bTerm (x / 12 / 3)).dv ++ [])) _
    rw [List.append_nil, et, et', ← hσ4]
    exact DAtL.append_iff.2 ⟨_, _, rfl, DAtL.sub (but_sub (sub_push hW3 _)) _ _ hd23, DAtL.sub (but_sub (sub_push hW3 _)) _ _ hd2'⟩
  refine RunV.to (atom_ok _ _ _ _ _ _) ?_
  obtain ⟨i, es, he, hS5⟩ := ((hS4.push (.cells [.int .u8 1, .str [82], .slice (some (σ3.next, 0)) 2 (some 2) 3, nilA] true)).push (.cells [.int .u8 1, .str [82], .slice (some (σ3.next, 0)) 2 (some 2) 3, nilA] true)).append
    (f := bAtom 82 [bTerm (x / 12), bTerm (x / 12 / 3)]) (xs := [.int .u8 1, .str [82], .slice (some (σ3.next, 0)) 2 (some 2) 3, nilA]) (fdat (DAt.sub (but_sub ((sub_push hS4.grown.wf _).trans (sub_push (hS4.grown.wf.push _) _))) _ _ hd4) (dat_nil _ 4)) rfl (by omega)
  simp -implicitDefEqProofs (maxDischargeDepth := 15) only [↓reduceIte, Yr, Ys, Yt, Yu, Yv, Yw, Yx, Yy, Yz, Wa, Wb, Wc, Wd, We, Wf, Wg, Wh, Wi, Wj, Wk, Wl, Wm, Wn, Wo, Wp, Wq, Wr, Ws, Wt, Wu, opA, Wv, Ww, Wx, Wy, Wz, Va, Za, Zb, List.replicate, Zc, Zd, Ze, Vb, Vc, Vd, Ve, Vf, AV.cells, Vg, Vh, Vi, Vj, AState.set_next, AState.kill_next, Vk, Vl, Vm, Vn, Vo, Vp, Vq, Vr, Vs, Vt, partA, Zf, Zg, Zh, Zi, if_true, if_false, Nat.reduceAdd, Nat.reduceLeDiff, Nat.reduceSub, Zj, Nat.zero_le, Zk, Zl, Zm, Zn, Zo, Zp, Zq, Zr, Zs, Zt, binA, eqA, kEq, nilEq, fillA, putL, allOne, Zu, Zv, AV.one, Zw, Zx, Zy, and_self, and_true, true_and, lenA, firstA, EndOk, resultA, oneOf, Zz, Ya, Yb, Yc, Yd, Ye, reduceCtorEq, Yf, Yg, natOf, upTo, bMax, bHigh, bLow, boundsA, evO, Yh, Yi, againOk, Vu, Vv, Vw, Yj, Yk, eq_self, Yl, Ym, Yn, setPs, or_true, true_or, false_or, or_false, ne_eq, Yo, Vx, Vy, Yp, Yq, i_law30_Built, c0_0, c0_1, c0_2, c0_3, c0_4, c0_5, c0_6, c0_7, c0_8, c0_9, c0_10, c0_11, c0_12, c0_13, c0_14, c0_15, c0_16, c0_17, c0_18, c0_19, c0_20, c0_21, c0_22, c0_23, c0_24, c0_25, c0_26, c0_27, c0_28, c0_29, c0_30, c0_31, c0_32, c0_33, c0_34, c0_35, c0_36, c0_37, c0_38, c0_39, c0_40, c0_41, c0_42, c0_43, c0_44, c0_45, c0_46, c0_47, c0_48, c0_49, c0_50, c0_51, c0_52, c0_53, c0_54, c0_55, c0_56, c0_57, he]
  rw [← hb] at hS5
  exact hQ _ _ _ _ _ _ _ _ _ _ _ _ _ _ _ _ _ _ _ _ _ _ _ _ _ _ _ _ _ _ _ _ _ _ _ _ _ _ _ _ _ _ _ _ _ _ _ _ _ _ _ _ _ _ _ _ _ _ _ _ _ _ _ _ _ _ _ _ _ _ _ _ _ _ _ _ _ _ _ _ _ _ _ _ _ _ _ _ _ _ _ _ _ _ _ _ _ _ _ _ _ _ _ _ _ _ _ _ _ _ _ _ _ _ _ _ _ _ _ _ _ _ _ _ _ _ _ _ _ _ _ _ _ _ _ _ _ _ _ _ _ _ _ _ _ _ _ _ _ _ _ _ _ _ _ _ _ _ _ _ _ _ _ _ _ _ _ _ _ _ _ _ _ _ _ _ _ _ _ _ _ _ _ _ _ _ _ _ _ _ _ _ _ _ hS5 (Nat.le_refl _)
theorem bsw5 {e : Nat} {σ1 σ' : AState} {v0 p2 : AV} {k : Nat} {so : Option (Nat × Nat)} {sn : Nat} {sc : Option Nat} {sz : Nat} {s : List F} {cs : List AV} (hS : Stk e σ1 σ' so sn sc sz s cs) (hsn : sn ≤ 20) {x : Nat} (hx : x < 256) (hr : x % 12 = 6 ∧ 1 ≤ sn) {j1 j8 j9 j10 j11 j12 j13 j14 j15 j16 j17 j18 j19 j20 j21 j22 j23 j24 j25 j26 j27 j28 j29 j30 j31 j32 j33 j34 j35 j36 j37 j38 j39 j40 j41 j42 j43 j44 j45 j46 j47 j48 j49 j50 j51 j52 j53 j54 j55 j56 j57 j58 j59 j60 j61 j62 j63 j64 j65 j66 j67 j68 j69 j70 j71 j72 j73 j74 j75 j76 j77 j78 j79 j80 j81 j82 j83 j84 j85 j86 j87 j88 j89 j90 j91 j92 j93 j94 j95 j96 j97 j98 j99 j100 j101 j102 j103 j104 j105 j106 j107 j108 j109 j110 j111 j112 j113 j114 j115 j116 j117 j118 j119 j120 j121 j122 j123 j124 j125 j126 j127 j128 j129 j130 j131 j132 j133 j134 j135 j136 j137 j138 j139 j140 j141 j142 j143 j144 j145 j146 j147 j148 j149 j150 j151 j152 j153 j154 j155 j156 j157 j158 j159 j160 j161 j162 j163 j164 j165 j166 j167 j168 j169 j170 j171 j172 j173 j174 j175 j176 j177 j178 j179 j180 j181 j182 j183 j184 j185 j186 j187 j188 j189 j190 j191 : AV} {Q : Ex → List AV → AState → Prop}
    (hQ : ∀ (σ'' : AState) (so' : Option (Nat × Nat)) (sn' : Nat) (sc' : Option Nat) (sz' : Nat) (cs' : List AV) (j1 j5 j6 j7 j8 j9 j10 j11 j12 j13 j14 j15 j16 j17 j18 j19 j20 j21 j22 j23 j24 j25 j26 j27 j28 j29 j30 j31 j32 j33 j34 j35 j36 j37 j38 j39 j40 j41 j42 j43 j44 j45 j46 j47 j48 j49 j50 j51 j52 j53 j54 j55 j56 j57 j58 j59 j60 j61 j62 j63 j64 j65 j66 j67 j68 j69 j70 j71 j72 j73 j74 j75 j76 j77 j78 j79 j80 j81 j82 j83 j84 j85 j86 j87 j88 j89 j90 j91 j92 j93 j94 j95 j96 j97 j98 j99 j100 j101 j102 j103 j104 j105 j106 j107 j108 j109 j110 j111 j112 j113 j114 j115 j116 j117 j118 j119 j120 j121 j122 j123 j124 j125 j126 j127 j128 j129 j130 j131 j132 j133 j134 j135 j136 j137 j138 j139 j140 j141 j142 j143 j144 j145 j146 j147 j148 j149 j150 j151 j152 j153 j154 j155 j156 j157 j158 j159 j160 j161 j162 j163 j164 j165 j166 j167 j168 j169 j170 j171 j172 j173 j174 j175 j176 j177 j178 j179 j180 j181 j182 j183 j184 j185 j186 j187 j188 j189 j190 j191 : AV), Stk e σ1 σ'' so' sn' sc' sz' (bStep s x) cs' → sn' ≤ sn + 1 → Q .normal [v0, j1, p2, .slice so' sn' sc' sz', .int .i64 k, j5, j6, j7, j8, j9, j10, j11, j12, j13, j14, j15, j16, j17, j18, j19, j20, j21, j22, j23, j24, j25, j26, j27, j28, j29, j30, j31, j32, j33, j34, j35, j36, j37, j38, j39, j40, j41, j42, j43, j44, j45, j46, j47, j48, j49, j50, j51, j52, j53, j54, j55, j56, j57, j58, j59, j60, j61, j62, j63, j64, j65, j66, j67, j68, j69, j70, j71, j72, j73, j74, j75, j76, j77, j78, j79, j80, j81, j82, j83, j84, j85, j86, j87, j88, j89, j90, j91, j92, j93, j94, j95, j96, j97, j98, j99, j100, j101, j102, j103, j104, j105, j106, j107, j108, j109, j110, j111, j112, j113, j114, j115, j116, j117, j118, j119, j120, j121, j122, j123, j124, j125, j126, j127, j128, j129, j130, j131, j132, j133, j134, j135, j136, j137, j138, j139, j140, j141, j142, j143, j144, j145, j146, j147, j148, j149, j150, j151, j152, j153, j154, j155, j156, j157, j158, j159, j160, j161, j162, j163, j164, j165, j166, j167, j168, j169, j170, j171, j172, j173, j174, j175, j176, j177, j178, j179, j180, j181, j182, j183, j184, j185, j186, j187, j188, j189, j190, j191] σ'') :
    wpC RR Tryz.prog c0_31 [v0, j1, p2, .slice so sn sc sz, .int .i64 k, .int .i64 sn, .int .u8 (x / 12 : Nat), .int .u8 (x % 12 : Nat), j8, j9, j10, j11, j12, j13, j14, j15, j16, j17, j18, j19, j20, j21, j22, j23, j24, j25, j26, j27, j28, j29, j30, j31, j32, j33, j34, j35, j36, j37, j38, j39, j40, j41, j42, j43, j44, j45, j46, j47, j48, j49, j50, j51, j52, j53, j54, j55, j56, j57, j58, j59, j60, j61, j62, j63, j64, j65, j66, j67, j68, j69, j70, j71, j72, j73, j74, j75, j76, j77, j78, j79, j80, j81, j82, j83, j84, j85, j86, j87, j88, j89, j90, j91, j92, j93, j94, j95, j96, j97, j98, j99, j100, j101, j102, j103, j104, j105, j106, j107, j108, j109, j110, j111, j112, j113, j114, j115, j116, j117, j118, j119, j120, j121, j122, j123, j124, j125, j126, j127, j128, j129, j130, j131, j132, j133, j134, j135, j136, j137, j138, j139, j140, j141, j142, j143, j144, j145, j146, j147, j148, j149, j150, j151, j152, j153, j154, j155, j156, j157, j158, j159, j160, j161, j162, j163, j164, j165, j166, j167, j168, j169, j170, j171, j172, j173, j174, j175, j176, j177, j178, j179, j180, j181, j182, j183, j184, j185, j186, j187, j188, j189, j190, j191] σ' Q := by
  have hlen := hS.len
  have hcase : sc = none ∧ sz = 4 ∧ ∃ i, so = some (i, 0) ∧ σ'.get i = some (.cells cs true) := by
    rcases hS.grown.at' with ⟨_, q⟩ | ⟨q1, q2, i, q3, _, q4⟩
    · omega
    · exact ⟨q1, q2, i, q3, q4⟩
  obtain ⟨rfl, rfl, i, rfl, hgi⟩ := hcase
  have hil := hS.lt i rfl
  have hcl := hS.grown.len
  obtain ⟨f, hf⟩ : ∃ f, s[sn - 1]? = some f := ⟨s[sn - 1]'(by omega), List.getElem?_eq_getElem _⟩
  have hdrop : s.drop (s.length - 1) = [f] := by
    rw [hlen]
    refine List.ext_getElem? fun j => ?_
    rw [List.getElem?_drop]
    cases j with
    | zero => simpa using hf
    | succ j => rw [List.getElem?_eq_none (by omega)]; simp
  have hb : bStep s x = s.take (sn - 1) ++ [.mk (if x / 12 % 3 = 0 then 3 else if x / 12 % 3 = 1 then 10 else 12) [] [] [f]] := by
    unfold bStep; rw [if_neg (by omega), if_neg (by omega), if_neg (by omega), if_neg (by omega), if_pos ⟨hr.1, by omega⟩, hdrop, hlen]
  obtain ⟨_, i', xs, e', _, hl4, hxs, hd⟩ := hS.elem hf
  cases e'
  obtain ⟨fo, fn, fa, fl, ef⟩ := form_is f
  subst ef
  have hd0 := hd
  obtain ⟨o1, q1, z1, o2, q2, z2, rfl, _, _⟩ := F.cells hd
  have c1 : decide (((x % 12 : Nat) : Int) < 2) = false := decide_eq_false (by omega)
  have c2 : decide (((x % 12 : Nat) : Int) < 4) = false := decide_eq_false (by omega)
  have c3 : (((x % 12 : Nat) : Int) == 4) = false := by simp only [beq_eq_false_iff_ne]; omega
  have c4 : (((x % 12 : Nat) : Int) == 5) = false := by simp only [beq_eq_false_iff_ne]; omega
  have c5 : (((x % 12 : Nat) : Int) == 6) = true := by simp only [beq_iff_eq]; omega
  have c6 : decide ((sn : Int) ≥ 1) = true := decide_eq_true (by omega)
  have w1 : wrapF .i64 ((sn : Int) - 1) = ((sn - 1 : Nat) : Int) := by rw [wrap_i64 (by omega)]; omega
  have l1 : sn - 1 ≤ sn := by omega
  have m3 : ((x / 12 : Nat) : Int).tmod 3 = ((x / 12 % 3 : Nat) : Int) := tmodN _ 3
  have z3 : ((3 : Int) = 0) = False := by simp
  have e3 : (0 : Int) ≤ ((x / 12 % 3 : Nat) : Int) ∧ ((x / 12 % 3 : Nat) : Int) < ((3 : Nat) : Int) := by omega
  have e4 : (0 : Int) ≤ ((sn - 1 : Nat) : Int) ∧ ((sn - 1 : Nat) : Int) < (sn : Int) := by omega
  have g3 : ([.int .u8 3, .int .u8 10, .int .u8 12] : List AV)[x / 12 % 3]? = some (.int .u8 ((if x / 12 % 3 = 0 then 3 else if x / 12 % 3 = 1 then 10 else 12 : Nat) : Int)) := by
    have : x / 12 % 3 = 0 ∨ x / 12 % 3 = 1 ∨ x / 12 % 3 = 2 := by omega
    rcases this with e | e | e <;> rw [e] <;> rfl
  generalize (if x / 12 % 3 = 0 then 3 else if x / 12 % 3 = 1 then 10 else 12 : Nat) = op at *
  simp -implicitDefEqProofs (maxDischargeDepth := 15) only [↓reduceIte, Yr, Ys, Yt, Yu, Yv, Yw, Yx, Yy, Yz, Wa, Wb, Wc, Wd, We, Wf, Wg, Wh, Wi, Wj, Wk, Wl, Wm, Wn, Wo, Wp, Wq, Wr, Ws, Wt, Wu, opA, Wv, Ww, Wx, Wy, Wz, Va, Za, Zb, List.replicate, Zc, Zd, Ze, Vb, Vc, Vd, Ve, Vf, AV.cells, Vg, Vh, Vi, Vj, AState.set_next, AState.kill_next, Vk, Vl, Vm, Vn, Vo, Vp, Vq, Vr, Vs, Vt, partA, Zf, Zg, Zh, Zi, if_true, if_false, Nat.reduceAdd, Nat.reduceLeDiff, Nat.reduceSub, Zj, Nat.zero_le, Zk, Zl, Zm, Zn, Zo, Zp, Zq, Zr, Zs, Zt, binA, eqA, kEq, nilEq, fillA, putL, allOne, Zu, Zv, AV.one, Zw, Zx, Zy, and_self, and_true, true_and, lenA, firstA, EndOk, resultA, oneOf, Zz, Ya, Yb, Yc, Yd, Ye, reduceCtorEq, Yf, Yg, natOf, upTo, bMax, bHigh, bLow, boundsA, evO, Yh, Yi, againOk, Vu, Vv, Vw, Yj, Yk, eq_self, Yl, Ym, Yn, setPs, or_true, true_or, false_or, or_false, ne_eq, Yo, Vx, Vy, Yp, Yq, i_law30_Built, c0_0, c0_1, c0_2, c0_3, c0_4, c0_5, c0_6, c0_7, c0_8, c0_9, c0_10, c0_11, c0_12, c0_13, c0_14, c0_15, c0_16, c0_17, c0_18, c0_19, c0_20, c0_21, c0_22, c0_23, c0_24, c0_25, c0_26, c0_27, c0_28, c0_29, c0_30, c0_31, c0_32, c0_33, c0_34, c0_35, c0_36, c0_37, c0_38, c0_39, c0_40, c0_41, c0_42, c0_43, c0_44, c0_45, c0_46, c0_47, c0_48, c0_49, c0_50, c0_51, c0_52, c0_53, c0_54, c0_55, c0_56, c0_57, c1, c2, c3, c4, c5, c6, w1, l1, m3, z3, e3, e4, g3, Nat.mul_one, natOf_cast, Nat.sub_zero, hgi, hil, hl4, hxs]
  refine RunV.to (joinB_ok _ _ _ _ _ _) ?_
  have hS2 := (hS.push (.cells [.int .u8 3, .int .u8 10, .int .u8 12] true))
  have hW2 := hS2.grown.wf
  have hd3 : DAt (but e ((σ'.push (.cells [.int .u8 3, .int .u8 10, .int .u8 12] true)).push (.cells [.int .u8 fo, .str fn, .slice o1 fa.length q1 z1, .slice o2 fl.length q2 z2] true)) (some (i, 0))) (.sl 4 1 (F.dvs [F.mk fo fn fa fl])) (.slice (some ((σ'.push (.cells [.int .u8 3, .int .u8 10, .int .u8 12] true)).next, 0)) 1 (some 1) 4) := by
    refine dat_sl (cs := [.int .u8 fo, .str fn, .slice o1 fa.length q1 z1, .slice o2 fl.length q2 z2]) (w := true) (some 1) (but_mk (fun q => by have := hS2.lt _ q; omega) Vg (by have := hS2.el; omega)) rfl ?_
    rw [dvs_one]
    exact DAtL.sub (but_sub ((sub_push hS.grown.wf _).trans (sub_push hW2 _))) _ _ hd0
  have hS3 := hS2.push (.cells [.int .u8 fo, .str fn, .slice o1 fa.length q1 z1, .slice o2 fl.length q2 z2] true)
  have hW3 := hS3.grown.wf
  have hS5 := (hS3.push (.cells [.int .u8 op, .str [], nilA, .slice (some ((σ'.push (.cells [.int .u8 3, .int .u8 10, .int .u8 12] true)).next, 0)) 1 (some 1) 4] true)).push (.cells [.int .u8 op, .str [], nilA, .slice (some ((σ'.push (.cells [.int .u8 3, .int .u8 10, .int .u8 12] true)).next, 0)) 1 (some 1) 4] true)
  obtain ⟨he, hS6⟩ := hS5.appendTake (k := sn - 1) rfl (by omega) (f := .mk op [] [] [F.mk fo fn fa fl]) (xs := [.int .u8 op, .str [], nilA, .slice (some ((σ'.push (.cells [.int .u8 3, .int .u8 10, .int .u8 12] true)).next, 0)) 1 (some 1) 4])
    (fdat (dat_nil _ 3) (DAt.sub (but_sub ((sub_push hW3 _).trans (sub_push (hW3.push _) _))) _ _ hd3)) (by omega)
  simp -implicitDefEqProofs (maxDischargeDepth := 15) only [↓reduceIte, Yr, Ys, Yt, Yu, Yv, Yw, Yx, Yy, Yz, Wa, Wb, Wc, Wd, We, Wf, Wg, Wh, Wi, Wj, Wk, Wl, Wm, Wn, Wo, Wp, Wq, Wr, Ws, Wt, Wu, opA, Wv, Ww, Wx, Wy, Wz, Va, Za, Zb, List.replicate, Zc, Zd, Ze, Vb, Vc, Vd, Ve, Vf, AV.cells, Vg, Vh, Vi, Vj, AState.set_next, AState.kill_next, Vk, Vl, Vm, Vn, Vo, Vp, Vq, Vr, Vs, Vt, partA, Zf, Zg, Zh, Zi, if_true, if_false, Nat.reduceAdd, Nat.reduceLeDiff, Nat.reduceSub, Zj, Nat.zero_le, Zk, Zl, Zm, Zn, Zo, Zp, Zq, Zr, Zs, Zt, binA, eqA, kEq, nilEq, fillA, putL, allOne, Zu, Zv, AV.one, Zw, Zx, Zy, and_self, and_true, true_and, lenA, firstA, EndOk, resultA, oneOf, Zz, Ya, Yb, Yc, Yd, Ye, reduceCtorEq, Yf, Yg, natOf, upTo, bMax, bHigh, bLow, boundsA, evO, Yh, Yi, againOk, Vu, Vv, Vw, Yj, Yk, eq_self, Yl, Ym, Yn, setPs, or_true, true_or, false_or, or_false, ne_eq, Yo, Vx, Vy, Yp, Yq, i_law30_Built, c0_0, c0_1, c0_2, c0_3, c0_4, c0_5, c0_6, c0_7, c0_8, c0_9, c0_10, c0_11, c0_12, c0_13, c0_14, c0_15, c0_16, c0_17, c0_18, c0_19, c0_20, c0_21, c0_22, c0_23, c0_24, c0_25, c0_26, c0_27, c0_28, c0_29, c0_30, c0_31, c0_32, c0_33, c0_34, c0_35, c0_36, c0_37, c0_38, c0_39, c0_40, c0_41, c0_42, c0_43, c0_44, c0_45, c0_46, c0_47, c0_48, c0_49, c0_50, c0_51, c0_52, c0_53, c0_54, c0_55, c0_56, c0_57, he]
  rw [← hb] at hS6
  exact hQ _ _ _ _ _ _ _ _ _ _ _ _ _ _ _ _ _ _ _ _ _ _ _ _ _ _ _ _ _ _ _ _ _ _ _ _ _ _ _ _ _ _ _ _ _ _ _ _ _ _ _ _ _ _ _ _ _ _ _ _ _ _ _ _ _ _ _ _ _ _ _ _ _ _ _ _ _ _ _ _ _ _ _ _ _ _ _ _ _ _ _ _ _ _ _ _ _ _ _ _ _ _ _ _ _ _ _ _ _ _ _ _ _ _ _ _ _ _ _ _ _ _ _ _ _ _ _ _ _ _ _ _ _ _ _ _ _ _ _ _ _ _ _ _ _ _ _ _ _ _ _ _ _ _ _ _ _ _ _ _ _ _ _ _ _ _ _ _ _ _ _ _ _ _ _ _ _ _ _ _ _ _ _ _ _ _ _ _ _ _ _ _ _ _ hS6 (by omega)
end Go.Am
namespace Go.Am
open Go.RowKit Go.Proofs Do
set_option maxRecDepth 100000
theorem bsw6 {e : Nat} {σ1 σ' : AState} {v0 p2 : AV} {k : Nat} {so : Option (Nat × Nat)} {sn : Nat} {sc : Option Nat} {sz : Nat} {s : List F} {cs : List AV} (hS : Stk e σ1 σ' so sn sc sz s cs) (hsn : sn ≤ 20) {x : Nat} (hx : x < 256) (hr : 7 ≤ x % 12 ∧ x % 12 < 10 ∧ 2 ≤ sn) {j1 j8 j9 j10 j11 j12 j13 j14 j15 j16 j17 j18 j19 j20 j21 j22 j23 j24 j25 j26 j27 j28 j29 j30 j31 j32 j33 j34 j35 j36 j37 j38 j39 j40 j41 j42 j43 j44 j45 j46 j47 j48 j49 j50 j51 j52 j53 j54 j55 j56 j57 j58 j59 j60 j61 j62 j63 j64 j65 j66 j67 j68 j69 j70 j71 j72 j73 j74 j75 j76 j77 j78 j79 j80 j81 j82 j83 j84 j85 j86 j87 j88 j89 j90 j91 j92 j93 j94 j95 j96 j97 j98 j99 j100 j101 j102 j103 j104 j105 j106 j107 j108 j109 j110 j111 j112 j113 j114 j115 j116 j117 j118 j119 j120 j121 j122 j123 j124 j125 j126 j127 j128 j129 j130 j131 j132 j133 j134 j135 j136 j137 j138 j139 j140 j141 j142 j143 j144 j145 j146 j147 j148 j149 j150 j151 j152 j153 j154 j155 j156 j157 j158 j159 j160 j161 j162 j163 j164 j165 j166 j167 j168 j169 j170 j171 j172 j173 j174 j175 j176 j177 j178 j179 j180 j181 j182 j183 j184 j185 j186 j187 j188 j189 j190 j191 : AV} {Q : Ex → List AV → AState → Prop}
    (hQ : ∀ (σ'' : AState) (so' : Option (Nat × Nat)) (sn' : Nat) (sc' : Option Nat) (sz' : Nat) (cs' : List AV) (j1 j5 j6 j7 j8 j9 j10 j11 j12 j13 j14 j15 j16 j17 j18 j19 j20 j21 j22 j23 j24 j25 j26 j27 j28 j29 j30 j31 j32 j33 j34 j35 j36 j37 j38 j39 j40 j41 j42 j43 j44 j45 j46 j47 j48 j49 j50 j51 j52 j53 j54 j55 j56 j57 j58 j59 j60 j61 j62 j63 j64 j65 j66 j67 j68 j69 j70 j71 j72 j73 j74 j75 j76 j77 j78 j79 j80 j81 j82 j83 j84 j85 j86 j87 j88 j89 j90 j91 j92 j93 j94 j95 j96 j97 j98 j99 j100 j101 j102 j103 j104 j105 j106 j107 j108 j109 j110 j111 j112 j113 j114 j115 j116 j117 j118 j119 j120 j121 j122 j123 j124 j125 j126 j127 j128 j129 j130 j131 j132 j133 j134 j135 j136 j137 j138 j139 j140 j141 j142 j143 j144 j145 j146 j147 j148 j149 j150 j151 j152 j153 j154 j155 j156 j157 j158 j159 j160 j161 j162 j163 j164 j165 j166 j167 j168 j169 j170 j171 j172 j173 j174 j175 j176 j177 j178 j179 j180 j181 j182 j183 j184 j185 j186 j187 j188 j189 j190 j191 : AV), Stk e σ1 σ'' so' sn' sc' sz' (bStep s x) cs' → sn' ≤ sn + 1 → Q .normal [v0, j1, p2, .slice so' sn' sc' sz', .int .i64 k, j5, j6, j7, j8, j9, j10, j11, j12, j13, j14, j15, j16, j17, j18, j19, j20, j21, j22, j23, j24, j25, j26, j27, j28, j29, j30, j31, j32, j33, j34, j35, j36, j37, j38, j39, j40, j41, j42, j43, j44, j45, j46, j47, j48, j49, j50, j51, j52, j53, j54, j55, j56, j57, j58, j59, j60, j61, j62, j63, j64, j65, j66, j67, j68, j69, j70, j71, j72, j73, j74, j75, j76, j77, j78, j79, j80, j81, j82, j83, j84, j85, j86, j87, j88, j89, j90, j91, j92, j93, j94, j95, j96, j97, j98, j99, j100, j101, j102, j103, j104, j105, j106, j107, j108, j109, j110, j111, j112, j113, j114, j115, j116, j117, j118, j119, j120, j121, j122, j123, j124, j125, j126, j127, j128, j129, j130, j131, j132, j133, j134, j135, j136, j137, j138, j139, j140, j141, j142, j143, j144, j145, j146, j147, j148, j149, j150, j151, j152, j153, j154, j155, j156, j157, j158, j159, j160, j161, j162, j163, j164, j165, j166, j167, j168, j169, j170, j171, j172, j173, j174, j175, j176, j177, j178, j179, j180, j181, j182, j183, j184, j185, j186, j187, j188, j189, j190, j191] σ'') :
    wpC RR Tryz.prog c0_31 [v0, j1, p2, .slice so sn sc sz, .int .i64 k, .int .i64 sn, .int .u8 (x / 12 : Nat), .int .u8 (x % 12 : Nat), j8, j9, j10, j11, j12, j13, j14, j15, j16, j17, j18, j19, j20, j21, j22, j23, j24, j25, j26, j27, j28, j29, j30, j31, j32, j33, j34, j35, j36, j37, j38, j39, j40, j41, j42, j43, j44, j45, j46, j47, j48, j49, j50, j51, j52, j53, j54, j55, j56, j57, j58, j59, j60, j61, j62, j63, j64, j65, j66, j67, j68, j69, j70, j71, j72, j73, j74, j75, j76, j77, j78, j79, j80, j81, j82, j83, j84, j85, j86, j87, j88, j89, j90, j91, j92, j93, j94, j95, j96, j97, j98, j99, j100, j101, j102, j103, j104, j105, j106, j107, j108, j109, j110, j111, j112, j113, j114, j115, j116, j117, j118, j119, j120, j121, j122, j123, j124, j125, j126, j127, j128, j129, j130, j131, j132, j133, j134, j135, j136, j137, j138, j139, j140, j141, j142, j143, j144, j145, j146, j147, j148, j149, j150, j151, j152, j153, j154, j155, j156, j157, j158, j159, j160, j161, j162, j163, j164, j165, j166, j167, j168, j169, j170, j171, j172, j173, j174, j175, j176, j177, j178, j179, j180, j181, j182, j183, j184, j185, j186, j187, j188, j189, j190, j191] σ' Q := by
  have hlen := hS.len
  have hcase : sc = none ∧ sz = 4 ∧ ∃ i, so = some (i, 0) ∧ σ'.get i = some (.cells cs true) := by
    rcases hS.grown.at' with ⟨_, q⟩ | ⟨q1, q2, i, q3, _, q4⟩
    · omega
    · exact ⟨q1, q2, i, q3, q4⟩
  obtain ⟨rfl, rfl, i, rfl, hgi⟩ := hcase
  have hil := hS.lt i rfl
  have hcl := hS.grown.len
  obtain ⟨f, hf⟩ : ∃ f, s[sn - 2]? = some f := ⟨s[sn - 2]'(by omega), List.getElem?_eq_getElem _⟩
  obtain ⟨f', hf'⟩ : ∃ f, s[sn - 1]? = some f := ⟨s[sn - 1]'(by omega), List.getElem?_eq_getElem _⟩
  have hdrop : s.drop (s.length - 2) = [f, f'] := by
    rw [hlen]
    refine List.ext_getElem? fun j => ?_
    rw [List.getElem?_drop]
    match j with
    | 0 => simpa using hf
    | 1 => rw [show sn - 2 + 1 = sn - 1 by omega]; simpa using hf'
    | j + 2 => rw [List.getElem?_eq_none (by omega)]; simp
  have hb : bStep s x = s.take (sn - 2) ++ [.mk (if x % 12 = 7 then 4 else if x % 12 = 8 then 5 else 6) [] [] [f, f']] := by
    unfold bStep; rw [if_neg (by omega), if_neg (by omega), if_neg (by omega), if_neg (by omega), if_neg (by omega), if_pos ⟨hr.1, hr.2.1, by omega⟩, hdrop, hlen]
  obtain ⟨_, i', xs, e', _, hl4, hxs, hd⟩ := hS.elem hf
  cases e'
  obtain ⟨_, i', xs', e', _, hl4', hxs', hd'⟩ := hS.elem hf'
  cases e'
  obtain ⟨fo, fn, fa, fl, ef⟩ := form_is f
  subst ef
  obtain ⟨fo', fn', fa', fl', ef'⟩ := form_is f'
  subst ef'
  have hd0 := hd
  have hd0' := hd'
  obtain ⟨o1, q1, z1, o2, q2, z2, rfl, _, _⟩ := F.cells hd
  obtain ⟨o1', q1', z1', o2', q2', z2', rfl, _, _⟩ := F.cells hd'
  have c1 : decide (((x % 12 : Nat) : Int) < 2) = false := decide_eq_false (by omega)
  have c2 : decide (((x % 12 : Nat) : Int) < 4) = false := decide_eq_false (by omega)
  have c3 : (((x % 12 : Nat) : Int) == 4) = false := by simp only [beq_eq_false_iff_ne]; omega
  have c4 : (((x % 12 : Nat) : Int) == 5) = false := by simp only [beq_eq_false_iff_ne]; omega
  have c5 : (((x % 12 : Nat) : Int) == 6) = false := by simp only [beq_eq_false_iff_ne]; omega
  have c6 : decide (((x % 12 : Nat) : Int) ≥ 7) = true := decide_eq_true (by omega)
  have c7 : decide (((x % 12 : Nat) : Int) < 10) = true := decide_eq_true (by omega)
  have c8 : decide ((sn : Int) ≥ 2) = true := decide_eq_true (by omega)
  have w1 : wrapF .i64 ((sn : Int) - 1) = ((sn - 1 : Nat) : Int) := by rw [wrap_i64 (by omega)]; omega
  have w2 : wrapF .i64 ((sn : Int) - 2) = ((sn - 2 : Nat) : Int) := by rw [wrap_i64 (by omega)]; omega
  have w7 : wrapF .u8 (((x % 12 : Nat) : Int) - 7) = ((x % 12 - 7 : Nat) : Int) := by rw [wrap_u8 (by omega)]; omega
  have l1 : sn - 2 ≤ sn := by omega
  have e3 : (0 : Int) ≤ ((x % 12 - 7 : Nat) : Int) ∧ ((x % 12 - 7 : Nat) : Int) < ((3 : Nat) : Int) := by omega
  have e4 : (0 : Int) ≤ ((sn - 1 : Nat) : Int) ∧ ((sn - 1 : Nat) : Int) < (sn : Int) := by omega
  have e5 : (0 : Int) ≤ ((sn - 2 : Nat) : Int) ∧ ((sn - 2 : Nat) : Int) < (sn : Int) := by omega
  have g3 : ([.int .u8 4, .int .u8 5, .int .u8 6] : List AV)[x % 12 - 7]? = some (.int .u8 ((if x % 12 = 7 then 4 else if x % 12 = 8 then 5 else 6 : Nat) : Int)) := by
    have : x % 12 = 7 ∨ x % 12 = 8 ∨ x % 12 = 9 := by omega
    rcases this with e | e | e <;> rw [e] <;> rfl
  generalize (if x % 12 = 7 then 4 else if x % 12 = 8 then 5 else 6 : Nat) = op at *
  simp -implicitDefEqProofs (maxDischargeDepth := 15) only [↓reduceIte, Yr, Ys, Yt, Yu, Yv, Yw, Yx, Yy, Yz, Wa, Wb, Wc, Wd, We, Wf, Wg, Wh, Wi, Wj, Wk, Wl, Wm, Wn, Wo, Wp, Wq, Wr, Ws, Wt, Wu, opA, Wv, Ww, Wx, Wy, Wz, Va, Za, Zb, List.replicate, Zc, Zd, Ze, Vb, Vc, Vd, Ve, Vf, AV.cells, Vg, Vh, Vi, Vj, AState.set_next, AState.kill_next, Vk, Vl, Vm, Vn, Vo, Vp, Vq, Vr, Vs, Vt, partA, Zf, Zg, Zh, Zi, if_true, if_false, Nat.reduceAdd, Nat.reduceLeDiff, Nat.reduceSub, Zj, Nat.zero_le, Zk, Zl, Zm, Zn, Zo, Zp, Zq, Zr, Zs, Zt, binA, eqA, kEq, nilEq, fillA, putL, allOne, Zu, Zv, AV.one, Zw, Zx, Zy, and_self, and_true, true_and, lenA, firstA, EndOk, resultA, oneOf, Zz, Ya, Yb, Yc, Yd, Ye, reduceCtorEq, Yf, Yg, natOf, upTo, bMax, bHigh, bLow, boundsA, evO, Yh, Yi, againOk, Vu, Vv, Vw, Yj, Yk, eq_self, Yl, Ym, Yn, setPs, or_true, true_or, false_or, or_false, ne_eq, Yo, Vx, Vy, Yp, Yq, i_law30_Built, c0_0, c0_1, c0_2, c0_3, c0_4, c0_5, c0_6, c0_7, c0_8, c0_9, c0_10, c0_11, c0_12, c0_13, c0_14, c0_15, c0_16, c0_17, c0_18, c0_19, c0_20, c0_21, c0_22, c0_23, c0_24, c0_25, c0_26, c0_27, c0_28, c0_29, c0_30, c0_31, c0_32, c0_33, c0_34, c0_35, c0_36, c0_37, c0_38, c0_39, c0_40, c0_41, c0_42, c0_43, c0_44, c0_45, c0_46, c0_47, c0_48, c0_49, c0_50, c0_51, c0_52, c0_53, c0_54, c0_55, c0_56, c0_57, c1, c2, c3, c4, c5, c6, c7, c8, w1, w2, w7, l1, e3, e4, e5, g3, Nat.mul_one, natOf_cast, Nat.sub_zero, hgi, hil, hl4, hxs, hl4', hxs']
  refine RunV.to (joinB_ok _ _ _ _ _ _) ?_
  have hS2 := (hS.push (.cells [.int .u8 4, .int .u8 5, .int .u8 6] true))
  have hW2 := hS2.grown.wf
  have hd3 : DAt (but e ((σ'.push (.cells [.int .u8 4, .int .u8 5, .int .u8 6] true)).push (.cells [.int .u8 fo, .str fn, .slice o1 fa.length q1 z1, .slice o2 fl.length q2 z2, .int .u8 fo', .str fn', .slice o1' fa'.length q1' z1', .slice o2' fl'.length q2' z2'] true)) (some (i, 0))) (.sl 4 2 (F.dvs [F.mk fo fn fa fl, F.mk fo' fn' fa' fl'])) (.slice (some ((σ'.push (.cells [.int .u8 4, .int .u8 5, .int .u8 6] true)).next, 0)) 2 (some 2) 4) := by
    refine dat_sl (cs := [.int .u8 fo, .str fn, .slice o1 fa.length q1 z1, .slice o2 fl.length q2 z2] ++ [.int .u8 fo', .str fn', .slice o1' fa'.length q1' z1', .slice o2' fl'.length q2' z2']) (w := true) (some 2) (but_mk (fun q => by have := hS2.lt _ q; omega) Vg (by have := hS2.el; omega)) rfl ?_
    show DAtL _ ((F.mk fo fn fa fl).dv ++ ((F.mk fo' fn' fa' fl').dv ++ [])) _
    rw [List.append_nil]
    exact DAtL.append_iff.2 ⟨_, _, rfl, DAtL.sub (but_sub ((sub_push hS.grown.wf _).trans (sub_push hW2 _))) _ _ hd0, DAtL.sub (but_sub ((sub_push hS.grown.wf _).trans (sub_push hW2 _))) _ _ hd0'⟩
  have hS3 := hS2.push (.cells [.int .u8 fo, .str fn, .slice o1 fa.length q1 z1, .slice o2 fl.length q2 z2, .int .u8 fo', .str fn', .slice o1' fa'.length q1' z1', .slice o2' fl'.length q2' z2'] true)
  have hW3 := hS3.grown.wf
  have hS5 := (hS3.push (.cells [.int .u8 op, .str [], nilA, .slice (some ((σ'.push (.cells [.int .u8 4, .int .u8 5, .int .u8 6] true)).next, 0)) 2 (some 2) 4] true)).push (.cells [.int .u8 op, .str [], nilA, .slice (some ((σ'.push (.cells [.int .u8 4, .int .u8 5, .int .u8 6] true)).next, 0)) 2 (some 2) 4] true)
  obtain ⟨he, hS6⟩ := hS5.appendTake (k := sn - 2) rfl (by omega) (f := .mk op [] [] [F.mk fo fn fa fl, F.mk fo' fn' fa' fl']) (xs := [.int .u8 op, .str [], nilA, .slice (some ((σ'.push (.cells [.int .u8 4, .int .u8 5, .int .u8 6] true)).next, 0)) 2 (some 2) 4])
    (fdat (dat_nil _ 3) (DAt.sub (but_sub ((sub_push hW3 _).trans (sub_push (hW3.push _) _))) _ _ hd3)) (by omega)
  simp -implicitDefEqProofs (maxDischargeDepth := 15) only [↓reduceIte, Yr, Ys, Yt, Yu, Yv, Yw, Yx, Yy, Yz, Wa, Wb, Wc, Wd, We, Wf, Wg, Wh, Wi, Wj, Wk, Wl, Wm, Wn, Wo, Wp, Wq, Wr, Ws, Wt, Wu, opA, Wv, Ww, Wx, Wy, Wz, Va, Za, Zb, List.replicate, Zc, Zd, Ze, Vb, Vc, Vd, Ve, Vf, AV.cells, Vg, Vh, Vi, Vj, AState.set_next, AState.kill_next, Vk, Vl, Vm, Vn, Vo, Vp, Vq, Vr, Vs, Vt, partA, Zf, Zg, Zh, Zi, if_true, if_false, Nat.reduceAdd, Nat.reduceLeDiff, Nat.reduceSub, Zj, Nat.zero_le, Zk, Zl, Zm, Zn, Zo, Zp, Zq, Zr, Zs, Zt, binA, eqA, kEq, nilEq, fillA, putL, allOne, Zu, Zv, AV.one, Zw, Zx, Zy, and_self, and_true, true_and, lenA, firstA, EndOk, resultA, oneOf, Zz, Ya, Yb, Yc, Yd, Ye, reduceCtorEq, Yf, Yg, natOf, upTo, bMax, bHigh, bLow, boundsA, evO, Yh, Yi, againOk, Vu, Vv, Vw, Yj, Yk, eq_self, Yl, Ym, Yn, setPs, or_true, true_or, false_or, or_false, ne_eq, Yo, Vx, Vy, Yp, Yq, i_law30_Built, c0_0, c0_1, c0_2, c0_3, c0_4, c0_5, c0_6, c0_7, c0_8, c0_9, c0_10, c0_11, c0_12, c0_13, c0_14, c0_15, c0_16, c0_17, c0_18, c0_19, c0_20, c0_21, c0_22, c0_23, c0_24, c0_25, c0_26, c0_27, c0_28, c0_29, c0_30, c0_31, c0_32, c0_33, c0_34, c0_35, c0_36, c0_37, c0_38, c0_39, c0_40, c0_41, c0_42, c0_43, c0_44, c0_45, c0_46, c0_47, c0_48, c0_49, c0_50, c0_51, c0_52, c0_53, c0_54, c0_55, c0_56, c0_57, he]
  rw [← hb] at hS6
  exact hQ _ _ _ _ _ _ _ _ _ _ _ _ _ _ _ _ _ _ _ _ _ _ _ _ _ _ _ _ _ _ _ _ _ _ _ _ _ _ _ _ _ _ _ _ _ _ _ _ _ _ _ _ _ _ _ _ _ _ _ _ _ _ _ _ _ _ _ _ _ _ _ _ _ _ _ _ _ _ _ _ _ _ _ _ _ _ _ _ _ _ _ _ _ _ _ _ _ _ _ _ _ _ _ _ _ _ _ _ _ _ _ _ _ _ _ _ _ _ _ _ _ _ _ _ _ _ _ _ _ _ _ _ _ _ _ _ _ _ _ _ _ _ _ _ _ _ _ _ _ _ _ _ _ _ _ _ _ _ _ _ _ _ _ _ _ _ _ _ _ _ _ _ _ _ _ _ _ _ _ _ _ _ _ _ _ _ _ _ _ _ _ _ _ _ hS6 (by omega)
theorem bsw7 {e : Nat} {σ1 σ' : AState} {v0 p2 : AV} {k : Nat} {so : Option (Nat × Nat)} {sn : Nat} {sc : Option Nat} {sz : Nat} {s : List F} {cs : List AV} (hS : Stk e σ1 σ' so sn sc sz s cs) (hsn : sn ≤ 20) {x : Nat} (hx : x < 256) (hr : 10 ≤ x % 12 ∧ 1 ≤ sn) {j1 j8 j9 j10 j11 j12 j13 j14 j15 j16 j17 j18 j19 j20 j21 j22 j23 j24 j25 j26 j27 j28 j29 j30 j31 j32 j33 j34 j35 j36 j37 j38 j39 j40 j41 j42 j43 j44 j45 j46 j47 j48 j49 j50 j51 j52 j53 j54 j55 j56 j57 j58 j59 j60 j61 j62 j63 j64 j65 j66 j67 j68 j69 j70 j71 j72 j73 j74 j75 j76 j77 j78 j79 j80 j81 j82 j83 j84 j85 j86 j87 j88 j89 j90 j91 j92 j93 j94 j95 j96 j97 j98 j99 j100 j101 j102 j103 j104 j105 j106 j107 j108 j109 j110 j111 j112 j113 j114 j115 j116 j117 j118 j119 j120 j121 j122 j123 j124 j125 j126 j127 j128 j129 j130 j131 j132 j133 j134 j135 j136 j137 j138 j139 j140 j141 j142 j143 j144 j145 j146 j147 j148 j149 j150 j151 j152 j153 j154 j155 j156 j157 j158 j159 j160 j161 j162 j163 j164 j165 j166 j167 j168 j169 j170 j171 j172 j173 j174 j175 j176 j177 j178 j179 j180 j181 j182 j183 j184 j185 j186 j187 j188 j189 j190 j191 : AV} {Q : Ex → List AV → AState → Prop}
    (hQ : ∀ (σ'' : AState) (so' : Option (Nat × Nat)) (sn' : Nat) (sc' : Option Nat) (sz' : Nat) (cs' : List AV) (j1 j5 j6 j7 j8 j9 j10 j11 j12 j13 j14 j15 j16 j17 j18 j19 j20 j21 j22 j23 j24 j25 j26 j27 j28 j29 j30 j31 j32 j33 j34 j35 j36 j37 j38 j39 j40 j41 j42 j43 j44 j45 j46 j47 j48 j49 j50 j51 j52 j53 j54 j55 j56 j57 j58 j59 j60 j61 j62 j63 j64 j65 j66 j67 j68 j69 j70 j71 j72 j73 j74 j75 j76 j77 j78 j79 j80 j81 j82 j83 j84 j85 j86 j87 j88 j89 j90 j91 j92 j93 j94 j95 j96 j97 j98 j99 j100 j101 j102 j103 j104 j105 j106 j107 j108 j109 j110 j111 j112 j113 j114 j115 j116 j117 j118 j119 j120 j121 j122 j123 j124 j125 j126 j127 j128 j129 j130 j131 j132 j133 j134 j135 j136 j137 j138 j139 j140 j141 j142 j143 j144 j145 j146 j147 j148 j149 j150 j151 j152 j153 j154 j155 j156 j157 j158 j159 j160 j161 j162 j163 j164 j165 j166 j167 j168 j169 j170 j171 j172 j173 j174 j175 j176 j177 j178 j179 j180 j181 j182 j183 j184 j185 j186 j187 j188 j189 j190 j191 : AV), Stk e σ1 σ'' so' sn' sc' sz' (bStep s x) cs' → sn' ≤ sn + 1 → Q .normal [v0, j1, p2, .slice so' sn' sc' sz', .int .i64 k, j5, j6, j7, j8, j9, j10, j11, j12, j13, j14, j15, j16, j17, j18, j19, j20, j21, j22, j23, j24, j25, j26, j27, j28, j29, j30, j31, j32, j33, j34, j35, j36, j37, j38, j39, j40, j41, j42, j43, j44, j45, j46, j47, j48, j49, j50, j51, j52, j53, j54, j55, j56, j57, j58, j59, j60, j61, j62, j63, j64, j65, j66, j67, j68, j69, j70, j71, j72, j73, j74, j75, j76, j77, j78, j79, j80, j81, j82, j83, j84, j85, j86, j87, j88, j89, j90, j91, j92, j93, j94, j95, j96, j97, j98, j99, j100, j101, j102, j103, j104, j105, j106, j107, j108, j109, j110, j111, j112, j113, j114, j115, j116, j117, j118, j119, j120, j121, j122, j123, j124, j125, j126, j127, j128, j129, j130, j131, j132, j133, j134, j135, j136, j137, j138, j139, j140, j141, j142, j143, j144, j145, j146, j147, j148, j149, j150, j151, j152, j153, j154, j155, j156, j157, j158, j159, j160, j161, j162, j163, j164, j165, j166, j167, j168, j169, j170, j171, j172, j173, j174, j175, j176, j177, j178, j179, j180, j181, j182, j183, j184, j185, j186, j187, j188, j189, j190, j191] σ'') :
    wpC RR Tryz.prog c0_31 [v0, j1, p2, .slice so sn sc sz, .int .i64 k, .int .i64 sn, .int .u8 (x / 12 : Nat), .int .u8 (x % 12 : Nat), j8, j9, j10, j11, j12, j13, j14, j15, j16, j17, j18, j19, j20, j21, j22, j23, j24, j25, j26, j27, j28, j29, j30, j31, j32, j33, j34, j35, j36, j37, j38, j39, j40, j41, j42, j43, j44, j45, j46, j47, j48, j49, j50, j51, j52, j53, j54, j55, j56, j57, j58, j59, j60, j61, j62, j63, j64, j65, j66, j67, j68, j69, j70, j71, j72, j73, j74, j75, j76, j77, j78, j79, j80, j81, j82, j83, j84, j85, j86, j87, j88, j89, j90, j91, j92, j93, j94, j95, j96, j97, j98, j99, j100, j101, j102, j103, j104, j105, j106, j107, j108, j109, j110, j111, j112, j113, j114, j115, j116, j117, j118, j119, j120, j121, j122, j123, j124, j125, j126, j127, j128, j129, j130, j131, j132, j133, j134, j135, j136, j137, j138, j139, j140, j141, j142, j143, j144, j145, j146, j147, j148, j149, j150, j151, j152, j153, j154, j155, j156, j157, j158, j159, j160, j161, j162, j163, j164, j165, j166, j167, j168, j169, j170, j171, j172, j173, j174, j175, j176, j177, j178, j179, j180, j181, j182, j183, j184, j185, j186, j187, j188, j189, j190, j191] σ' Q := by
  have hlen := hS.len
  have hcase : sc = none ∧ sz = 4 ∧ ∃ i, so = some (i, 0) ∧ σ'.get i = some (.cells cs true) := by
    rcases hS.grown.at' with ⟨_, q⟩ | ⟨q1, q2, i, q3, _, q4⟩
    · omega
    · exact ⟨q1, q2, i, q3, q4⟩
  obtain ⟨rfl, rfl, i, rfl, hgi⟩ := hcase
  have hil := hS.lt i rfl
  have hcl := hS.grown.len
  obtain ⟨f, hf⟩ : ∃ f, s[sn - 1]? = some f := ⟨s[sn - 1]'(by omega), List.getElem?_eq_getElem _⟩
  have hdrop : s.drop (s.length - 1) = [f] := by
    rw [hlen]
    refine List.ext_getElem? fun j => ?_
    rw [List.getElem?_drop]
    cases j with
    | zero => simpa using hf
    | succ j => rw [List.getElem?_eq_none (by omega)]; simp
  have hb : bStep s x = s.take (sn - 1) ++ [.mk (8 + x % 12 - 10) [if x / 12 % 3 = 0 then 120 else if x / 12 % 3 = 1 then 121 else 122] [] [f]] := by
    unfold bStep; rw [if_neg (by omega), if_neg (by omega), if_neg (by omega), if_neg (by omega), if_neg (by omega), if_neg (by omega), if_pos ⟨hr.1, by omega⟩, hdrop, hlen]
  obtain ⟨_, i', xs, e', _, hl4, hxs, hd⟩ := hS.elem hf
  cases e'
  obtain ⟨fo, fn, fa, fl, ef⟩ := form_is f
  subst ef
  have hd0 := hd
  obtain ⟨o1, q1, z1, o2, q2, z2, rfl, _, _⟩ := F.cells hd
  have c1 : decide (((x % 12 : Nat) : Int) < 2) = false := decide_eq_false (by omega)
  have c2 : decide (((x % 12 : Nat) : Int) < 4) = false := decide_eq_false (by omega)
  have c3 : (((x % 12 : Nat) : Int) == 4) = false := by simp only [beq_eq_false_iff_ne]; omega
  have c4 : (((x % 12 : Nat) : Int) == 5) = false := by simp only [beq_eq_false_iff_ne]; omega
  have c5 : (((x % 12 : Nat) : Int) == 6) = false := by simp only [beq_eq_false_iff_ne]; omega
  have c6 : decide (((x % 12 : Nat) : Int) ≥ 7) = true := decide_eq_true (by omega)
  have c7 : decide (((x % 12 : Nat) : Int) < 10) = false := decide_eq_false (by omega)
  have c8 : decide (((x % 12 : Nat) : Int) ≥ 10) = true := decide_eq_true (by omega)
  have c9 : decide ((sn : Int) ≥ 1) = true := decide_eq_true (by omega)
  have w1 : wrapF .i64 ((sn : Int) - 1) = ((sn - 1 : Nat) : Int) := by rw [wrap_i64 (by omega)]; omega
  have w8 : wrapF .u8 (8 + ((x % 12 : Nat) : Int)) = ((8 + x % 12 : Nat) : Int) := by rw [wrap_u8 (by omega)]; omega
  have w9 : wrapF .u8 (((8 + x % 12 : Nat) : Int) - 10) = ((8 + x % 12 - 10 : Nat) : Int) := by rw [wrap_u8 (by omega)]; omega
  have l1 : sn - 1 ≤ sn := by omega
  have m3 : ((x / 12 : Nat) : Int).tmod 3 = ((x / 12 % 3 : Nat) : Int) := tmodN _ 3
  have z3 : ((3 : Int) = 0) = False := by simp
  have e3 : (0 : Int) ≤ ((x / 12 % 3 : Nat) : Int) ∧ ((x / 12 % 3 : Nat) : Int) < ((3 : Nat) : Int) := by omega
  have e4 : (0 : Int) ≤ ((sn - 1 : Nat) : Int) ∧ ((sn - 1 : Nat) : Int) < (sn : Int) := by omega
  have g3 : ([.str [120], .str [121], .str [122]] : List AV)[x / 12 % 3]? = some (.str [if x / 12 % 3 = 0 then 120 else if x / 12 % 3 = 1 then 121 else 122]) := by
    have : x / 12 % 3 = 0 ∨ x / 12 % 3 = 1 ∨ x / 12 % 3 = 2 := by omega
    rcases this with e | e | e <;> rw [e] <;> rfl
  generalize ([if x / 12 % 3 = 0 then 120 else if x / 12 % 3 = 1 then 121 else 122] : Str) = nm at *
  generalize 8 + x % 12 - 10 = op at *
  simp -implicitDefEqProofs (maxDischargeDepth := 15) only [↓reduceIte, Yr, Ys, Yt, Yu, Yv, Yw, Yx, Yy, Yz, Wa, Wb, Wc, Wd, We, Wf, Wg, Wh, Wi, Wj, Wk, Wl, Wm, Wn, Wo, Wp, Wq, Wr, Ws, Wt, Wu, opA, Wv, Ww, Wx, Wy, Wz, Va, Za, Zb, List.replicate, Zc, Zd, Ze, Vb, Vc, Vd, Ve, Vf, AV.cells, Vg, Vh, Vi, Vj, AState.set_next, AState.kill_next, Vk, Vl, Vm, Vn, Vo, Vp, Vq, Vr, Vs, Vt, partA, Zf, Zg, Zh, Zi, if_true, if_false, Nat.reduceAdd, Nat.reduceLeDiff, Nat.reduceSub, Zj, Nat.zero_le, Zk, Zl, Zm, Zn, Zo, Zp, Zq, Zr, Zs, Zt, binA, eqA, kEq, nilEq, fillA, putL, allOne, Zu, Zv, AV.one, Zw, Zx, Zy, and_self, and_true, true_and, lenA, firstA, EndOk, resultA, oneOf, Zz, Ya, Yb, Yc, Yd, Ye, reduceCtorEq, Yf, Yg, natOf, upTo, bMax, bHigh, bLow, boundsA, evO, Yh, Yi, againOk, Vu, Vv, Vw, Yj, Yk, eq_self, Yl, Ym, Yn, setPs, or_true, true_or, false_or, or_false, ne_eq, Yo, Vx, Vy, Yp, Yq, i_law30_Built, c0_0, c0_1, c0_2, c0_3, c0_4, c0_5, c0_6, c0_7, c0_8, c0_9, c0_10, c0_11, c0_12, c0_13, c0_14, c0_15, c0_16, c0_17, c0_18, c0_19, c0_20, c0_21, c0_22, c0_23, c0_24, c0_25, c0_26, c0_27, c0_28, c0_29, c0_30, c0_31, c0_32, c0_33, c0_34, c0_35, c0_36, c0_37, c0_38, c0_39, c0_40, c0_41, c0_42, c0_43, c0_44, c0_45, c0_46, c0_47, c0_48, c0_49, c0_50, c0_51, c0_52, c0_53, c0_54, c0_55, c0_56, c0_57, c1, c2, c3, c4, c5, c6, c7, c8, c9, w1, w8, w9, l1, m3, z3, e3, e4, g3, Nat.mul_one, natOf_cast, Nat.sub_zero, hgi, hil, hl4, hxs]
  refine (bound_ok _ _ _ _ _ _ _ _ _ _ _ _ _).mono ?_
  rintro u σ2 ⟨ib, rfl, hib, hgb, hG⟩
  have hS1 := hS.push (.cells [.str [120], .str [121], .str [122]] true)
  have hS2 := hS1.grow hG
  have hW2 := hS2.grown.wf
  have hd3 : DAt (but e σ2 (some (i, 0))) (.sl 4 1 (F.dvs [F.mk fo fn fa fl])) (.slice (some (ib, 0)) 1 (some 1) 4) := by
    refine dat_sl (cs := [.int .u8 fo, .str fn, .slice o1 fa.length q1 z1, .slice o2 fl.length q2 z2]) (w := true) (some 1) (but_mk (fun q => by have := hS1.lt _ q; omega) hgb (by have := hS1.el; omega)) rfl ?_
    rw [dvs_one]
    exact DAtL.sub (but_sub ((sub_push hS.grown.wf _).trans hG.sub)) _ _ hd0
  obtain ⟨he, hS6⟩ := (hS2.push (.cells [.int .u8 op, .str nm, nilA, .slice (some (ib, 0)) 1 (some 1) 4] true)).appendTake (k := sn - 1) rfl (by omega) (f := .mk op nm [] [F.mk fo fn fa fl]) (xs := [.int .u8 op, .str nm, nilA, .slice (some (ib, 0)) 1 (some 1) 4])
    (fdat (dat_nil _ 3) (DAt.sub (but_sub (sub_push hW2 _)) _ _ hd3)) (by omega)
  simp -implicitDefEqProofs (maxDischargeDepth := 15) only [↓reduceIte, Yr, Ys, Yt, Yu, Yv, Yw, Yx, Yy, Yz, Wa, Wb, Wc, Wd, We, Wf, Wg, Wh, Wi, Wj, Wk, Wl, Wm, Wn, Wo, Wp, Wq, Wr, Ws, Wt, Wu, opA, Wv, Ww, Wx, Wy, Wz, Va, Za, Zb, List.replicate, Zc, Zd, Ze, Vb, Vc, Vd, Ve, Vf, AV.cells, Vg, Vh, Vi, Vj, AState.set_next, AState.kill_next, Vk, Vl, Vm, Vn, Vo, Vp, Vq, Vr, Vs, Vt, partA, Zf, Zg, Zh, Zi, if_true, if_false, Nat.reduceAdd, Nat.reduceLeDiff, Nat.reduceSub, Zj, Nat.zero_le, Zk, Zl, Zm, Zn, Zo, Zp, Zq, Zr, Zs, Zt, binA, eqA, kEq, nilEq, fillA, putL, allOne, Zu, Zv, AV.one, Zw, Zx, Zy, and_self, and_true, true_and, lenA, firstA, EndOk, resultA, oneOf, Zz, Ya, Yb, Yc, Yd, Ye, reduceCtorEq, Yf, Yg, natOf, upTo, bMax, bHigh, bLow, boundsA, evO, Yh, Yi, againOk, Vu, Vv, Vw, Yj, Yk, eq_self, Yl, Ym, Yn, setPs, or_true, true_or, false_or, or_false, ne_eq, Yo, Vx, Vy, Yp, Yq, i_law30_Built, c0_0, c0_1, c0_2, c0_3, c0_4, c0_5, c0_6, c0_7, c0_8, c0_9, c0_10, c0_11, c0_12, c0_13, c0_14, c0_15, c0_16, c0_17, c0_18, c0_19, c0_20, c0_21, c0_22, c0_23, c0_24, c0_25, c0_26, c0_27, c0_28, c0_29, c0_30, c0_31, c0_32, c0_33, c0_34, c0_35, c0_36, c0_37, c0_38, c0_39, c0_40, c0_41, c0_42, c0_43, c0_44, c0_45, c0_46, c0_47, c0_48, c0_49, c0_50, c0_51, c0_52, c0_53, c0_54, c0_55, c0_56, c0_57, he]
  rw [← hb] at hS6
  exact hQ _ _ _ _ _ _ _ _ _ _ _ _ _ _ _ _ _ _ _ _ _ _ _ _ _ _ _ _ _ _ _ _ _ _ _ _ _ _ _ _ _ _ _ _ _ _ _ _ _ _ _ _ _ _ _ _ _ _ _ _ _ _ _ _ _ _ _ _ _ _ _ _ _ _ _ _ _ _ _ _ _ _ _ _ _ _ _ _ _ _ _ _ _ _ _ _ _ _ _ _ _ _ _ _ _ _ _ _ _ _ _ _ _ _ _ _ _ _ _ _ _ _ _ _ _ _ _ _ _ _ _ _ _ _ _ _ _ _ _ _ _ _ _ _ _ _ _ _ _ _ _ _ _ _ _ _ _ _ _ _ _ _ _ _ _ _ _ _ _ _ _ _ _ _ _ _ _ _ _ _ _ _ _ _ _ _ _ _ _ _ _ _ _ _ hS6 (by omega)
theorem bsw8 {e : Nat} {σ1 σ' : AState} {v0 p2 : AV} {k : Nat} {so : Option (Nat × Nat)} {sn : Nat} {sc : Option Nat} {sz : Nat} {s : List F} {cs : List AV} (hS : Stk e σ1 σ' so sn sc sz s cs) (hsn : sn ≤ 20) {x : Nat} (hx : x < 256) (hr : (x % 12 = 6 ∧ sn = 0) ∨ (7 ≤ x % 12 ∧ x % 12 < 10 ∧ sn < 2) ∨ (10 ≤ x % 12 ∧ sn = 0)) {j1 j8 j9 j10 j11 j12 j13 j14 j15 j16 j17 j18 j19 j20 j21 j22 j23 j24 j25 j26 j27 j28 j29 j30 j31 j32 j33 j34 j35 j36 j37 j38 j39 j40 j41 j42 j43 j44 j45 j46 j47 j48 j49 j50 j51 j52 j53 j54 j55 j56 j57 j58 j59 j60 j61 j62 j63 j64 j65 j66 j67 j68 j69 j70 j71 j72 j73 j74 j75 j76 j77 j78 j79 j80 j81 j82 j83 j84 j85 j86 j87 j88 j89 j90 j91 j92 j93 j94 j95 j96 j97 j98 j99 j100 j101 j102 j103 j104 j105 j106 j107 j108 j109 j110 j111 j112 j113 j114 j115 j116 j117 j118 j119 j120 j121 j122 j123 j124 j125 j126 j127 j128 j129 j130 j131 j132 j133 j134 j135 j136 j137 j138 j139 j140 j141 j142 j143 j144 j145 j146 j147 j148 j149 j150 j151 j152 j153 j154 j155 j156 j157 j158 j159 j160 j161 j162 j163 j164 j165 j166 j167 j168 j169 j170 j171 j172 j173 j174 j175 j176 j177 j178 j179 j180 j181 j182 j183 j184 j185 j186 j187 j188 j189 j190 j191 : AV} {Q : Ex → List AV → AState → Prop}
    (hQ : ∀ (σ'' : AState) (so' : Option (Nat × Nat)) (sn' : Nat) (sc' : Option Nat) (sz' : Nat) (cs' : List AV) (j1 j5 j6 j7 j8 j9 j10 j11 j12 j13 j14 j15 j16 j17 j18 j19 j20 j21 j22 j23 j24 j25 j26 j27 j28 j29 j30 j31 j32 j33 j34 j35 j36 j37 j38 j39 j40 j41 j42 j43 j44 j45 j46 j47 j48 j49 j50 j51 j52 j53 j54 j55 j56 j57 j58 j59 j60 j61 j62 j63 j64 j65 j66 j67 j68 j69 j70 j71 j72 j73 j74 j75 j76 j77 j78 j79 j80 j81 j82 j83 j84 j85 j86 j87 j88 j89 j90 j91 j92 j93 j94 j95 j96 j97 j98 j99 j100 j101 j102 j103 j104 j105 j106 j107 j108 j109 j110 j111 j112 j113 j114 j115 j116 j117 j118 j119 j120 j121 j122 j123 j124 j125 j126 j127 j128 j129 j130 j131 j132 j133 j134 j135 j136 j137 j138 j139 j140 j141 j142 j143 j144 j145 j146 j147 j148 j149 j150 j151 j152 j153 j154 j155 j156 j157 j158 j159 j160 j161 j162 j163 j164 j165 j166 j167 j168 j169 j170 j171 j172 j173 j174 j175 j176 j177 j178 j179 j180 j181 j182 j183 j184 j185 j186 j187 j188 j189 j190 j191 : AV), Stk e σ1 σ'' so' sn' sc' sz' (bStep s x) cs' → sn' ≤ sn + 1 → Q .normal [v0, j1, p2, .slice so' sn' sc' sz', .int .i64 k, j5, j6, j7, j8, j9, j10, j11, j12, j13, j14, j15, j16, j17, j18, j19, j20, j21, j22, j23, j24, j25, j26, j27, j28, j29, j30, j31, j32, j33, j34, j35, j36, j37, j38, j39, j40, j41, j42, j43, j44, j45, j46, j47, j48, j49, j50, j51, j52, j53, j54, j55, j56, j57, j58, j59, j60, j61, j62, j63, j64, j65, j66, j67, j68, j69, j70, j71, j72, j73, j74, j75, j76, j77, j78, j79, j80, j81, j82, j83, j84, j85, j86, j87, j88, j89, j90, j91, j92, j93, j94, j95, j96, j97, j98, j99, j100, j101, j102, j103, j104, j105, j106, j107, j108, j109, j110, j111, j112, j113, j114, j115, j116, j117, j118, j119, j120, j121, j122, j123, j124, j125, j126, j127, j128, j129, j130, j131, j132, j133, j134, j135, j136, j137, j138, j139, j140, j141, j142, j143, j144, j145, j146, j147, j148, j149, j150, j151, j152, j153, j154, j155, j156, j157, j158, j159, j160, j161, j162, j163, j164, j165, j166, j167, j168, j169, j170, j171, j172, j173, j174, j175, j176, j177, j178, j179, j180, j181, j182, j183, j184, j185, j186, j187, j188, j189, j190, j191] σ'') :
    wpC RR Tryz.prog c0_31 [v0, j1, p2, .slice so sn sc sz, .int .i64 k, .int .i64 sn, .int .u8 (x / 12 : Nat), .int .u8 (x % 12 : Nat), j8, j9, j10, j11, j12, j13, j14, j15, j16, j17, j18, j19, j20, j21, j22, j23, j24, j25, j26, j27, j28, j29, j30, j31, j32, j33, j34, j35, j36, j37, j38, j39, j40, j41, j42, j43, j44, j45, j46, j47, j48, j49, j50, j51, j52, j53, j54, j55, j56, j57, j58, j59, j60, j61, j62, j63, j64, j65, j66, j67, j68, j69, j70, j71, j72, j73, j74, j75, j76, j77, j78, j79, j80, j81, j82, j83, j84, j85, j86, j87, j88, j89, j90, j91, j92, j93, j94, j95, j96, j97, j98, j99, j100, j101, j102, j103, j104, j105, j106, j107, j108, j109, j110, j111, j112, j113, j114, j115, j116, j117, j118, j119, j120, j121, j122, j123, j124, j125, j126, j127, j128, j129, j130, j131, j132, j133, j134, j135, j136, j137, j138, j139, j140, j141, j142, j143, j144, j145, j146, j147, j148, j149, j150, j151, j152, j153, j154, j155, j156, j157, j158, j159, j160, j161, j162, j163, j164, j165, j166, j167, j168, j169, j170, j171, j172, j173, j174, j175, j176, j177, j178, j179, j180, j181, j182, j183, j184, j185, j186, j187, j188, j189, j190, j191] σ' Q := by
  have hlen := hS.len
  have hb : bStep s x = s := by
    unfold bStep; rw [if_neg (by omega), if_neg (by omega), if_neg (by omega), if_neg (by omega), if_neg (by omega), if_neg (by omega), if_neg (by omega)]
  have c1 : decide (((x % 12 : Nat) : Int) < 2) = false := decide_eq_false (by omega)
  have c2 : decide (((x % 12 : Nat) : Int) < 4) = false := decide_eq_false (by omega)
  have c3 : (((x % 12 : Nat) : Int) == 4) = false := by simp only [beq_eq_false_iff_ne]; omega
  have c4 : (((x % 12 : Nat) : Int) == 5) = false := by simp only [beq_eq_false_iff_ne]; omega
  rw [← hb] at hS
  rcases hr with ⟨hr, hn⟩ | ⟨hr, hr2, hn⟩ | ⟨hr, hn⟩
  · have c5 : (((x % 12 : Nat) : Int) == 6) = true := by simp only [beq_iff_eq]; omega
    have c6 : decide ((sn : Int) ≥ 1) = false := decide_eq_false (by omega)
    have c7 : decide (((x % 12 : Nat) : Int) ≥ 7) = false := decide_eq_false (by omega)
    have c8 : decide (((x % 12 : Nat) : Int) ≥ 10) = false := decide_eq_false (by omega)
    simp -implicitDefEqProofs (maxDischargeDepth := 15) only [↓reduceIte, Yr, Ys, Yt, Yu, Yv, Yw, Yx, Yy, Yz, Wa, Wb, Wc, Wd, We, Wf, Wg, Wh, Wi, Wj, Wk, Wl, Wm, Wn, Wo, Wp, Wq, Wr, Ws, Wt, Wu, opA, Wv, Ww, Wx, Wy, Wz, Va, Za, Zb, List.replicate, Zc, Zd, Ze, Vb, Vc, Vd, Ve, Vf, AV.cells, Vg, Vh, Vi, Vj, AState.set_next, AState.kill_next, Vk, Vl, Vm, Vn, Vo, Vp, Vq, Vr, Vs, Vt, partA, Zf, Zg, Zh, Zi, if_true, if_false, Nat.reduceAdd, Nat.reduceLeDiff, Nat.reduceSub, Zj, Nat.zero_le, Zk, Zl, Zm, Zn, Zo, Zp, Zq, Zr, Zs, Zt, binA, eqA, kEq, nilEq, fillA, putL, allOne, Zu, Zv, AV.one, Zw, Zx, Zy, and_self, and_true, true_and, lenA, firstA, EndOk, resultA, oneOf, Zz, Ya, Yb, Yc, Yd, Ye, reduceCtorEq, Yf, Yg, natOf, upTo, bMax, bHigh, bLow, boundsA, evO, Yh, Yi, againOk, Vu, Vv, Vw, Yj, Yk, eq_self, Yl, Ym, Yn, setPs, or_true, true_or, false_or, or_false, ne_eq, Yo, Vx, Vy, Yp, Yq, i_law30_Built, c0_0, c0_1, c0_2, c0_3, c0_4, c0_5, c0_6, c0_7, c0_8, c0_9, c0_10, c0_11, c0_12, c0_13, c0_14, c0_15, c0_16, c0_17, c0_18, c0_19, c0_20, c0_21, c0_22, c0_23, c0_24, c0_25, c0_26, c0_27, c0_28, c0_29, c0_30, c0_31, c0_32, c0_33, c0_34, c0_35, c0_36, c0_37, c0_38, c0_39, c0_40, c0_41, c0_42, c0_43, c0_44, c0_45, c0_46, c0_47, c0_48, c0_49, c0_50, c0_51, c0_52, c0_53, c0_54, c0_55, c0_56, c0_57, c1, c2, c3, c4, c5, c6, c7, c8]
    exact hQ _ _ _ _ _ _ _ _ _ _ _ _ _ _ _ _ _ _ _ _ _ _ _ _ _ _ _ _ _ _ _ _ _ _ _ _ _ _ _ _ _ _ _ _ _ _ _ _ _ _ _ _ _ _ _ _ _ _ _ _ _ _ _ _ _ _ _ _ _ _ _ _ _ _ _ _ _ _ _ _ _ _ _ _ _ _ _ _ _ _ _ _ _ _ _ _ _ _ _ _ _ _ _ _ _ _ _ _ _ _ _ _ _ _ _ _ _ _ _ _ _ _ _ _ _ _ _ _ _ _ _ _ _ _ _ _ _ _ _ _ _ _ _ _ _ _ _ _ _ _ _ _ _ _ _ _ _ _ _ _ _ _ _ _ _ _ _ _ _ _ _ _ _ _ _ _ _ _ _ _ _ _ _ _ _ _ _ _ _ _ _ _ _ _ hS (by omega)
  · have c5 : (((x % 12 : Nat) : Int) == 6) = false := by simp only [beq_eq_false_iff_ne]; omega
    have c6 : decide ((sn : Int) ≥ 2) = false := decide_eq_false (by omega)
    have c7 : decide (((x % 12 : Nat) : Int) ≥ 7) = true := decide_eq_true (by omega)
    have c8 : decide (((x % 12 : Nat) : Int) < 10) = true := decide_eq_true (by omega)
    have c9 : decide (((x % 12 : Nat) : Int) ≥ 10) = false := decide_eq_false (by omega)
    simp -implicitDefEqProofs (maxDischargeDepth := 15) only [↓reduceIte, Yr, Ys, Yt, Yu, Yv, Yw, Yx, Yy, Yz, Wa, Wb, Wc, Wd, We, Wf, Wg, Wh, Wi, Wj, Wk, Wl, Wm, Wn, Wo, Wp, Wq, Wr, Ws, Wt, Wu, opA, Wv, Ww, Wx, Wy, Wz, Va, Za, Zb, List.replicate, Zc, Zd, Ze, Vb, Vc, Vd, Ve, Vf, AV.cells, Vg, Vh, Vi, Vj, AState.set_next, AState.kill_next, Vk, Vl, Vm, Vn, Vo, Vp, Vq, Vr, Vs, Vt, partA, Zf, Zg, Zh, Zi, if_true, if_false, Nat.reduceAdd, Nat.reduceLeDiff, Nat.reduceSub, Zj, Nat.zero_le, Zk, Zl, Zm, Zn, Zo, Zp, Zq, Zr, Zs, Zt, binA, eqA, kEq, nilEq, fillA, putL, allOne, Zu, Zv, AV.one, Zw, Zx, Zy, and_self, and_true, true_and, lenA, firstA, EndOk, resultA, oneOf, Zz, Ya, Yb, Yc, Yd, Ye, reduceCtorEq, Yf, Yg, natOf, upTo, bMax, bHigh, bLow, boundsA, evO, Yh, Yi, againOk, Vu, Vv, Vw, Yj, Yk, eq_self, Yl, Ym, Yn, setPs, or_true, true_or, false_or, or_false, ne_eq, Yo, Vx, Vy, Yp, Yq, i_law30_Built, c0_0, c0_1, c0_2, c0_3, c0_4, c0_5, c0_6, c0_7, c0_8, c0_9, c0_10, c0_11, c0_12, c0_13, c0_14, c0_15, c0_16, c0_17, c0_18, c0_19, c0_20, c0_21, c0_22, c0_23, c0_24, c0_25, c0_26, c0_27, c0_28, c0_29, c0_30, c0_31, c0_32, c0_33, c0_34, c0_35, c0_36, c0_37, c0_38, c0_39, c0_40, c0_41, c0_42, c0_43, c0_44, c0_45, c0_46, c0_47, c0_48, c0_49, c0_50, c0_51, c0_52, c0_53, c0_54, c0_55, c0_56, c0_57, c1, c2, c3, c4, c5, c6, c7, c8, c9]
    exact hQ _ _ _ _ _ _ _ _ _ _ _ _ _ _ _ _ _ _ _ _ _ _ _ _ _ _ _ _ _ _ _ _ _ _ _ _ _ _ _ _ _ _ _ _ _ _ _ _ _ _ _ _ _ _ _ _ _ _ _ _ _ _ _ _ _ _ _ _ _ _ _ _ _ _ _ _ _ _ _ _ _ _ _ _ _ _ _ _ _ _ _ _ _ _ _ _ _ _ _ _ _ _ _ _ _ _ _ _ _ _ _ _ _ _ _ _ _ _ _ _ _ _ _ _ _ _ _ _ _ _ _ _ _ _ _ _ _ _ _ _ _ _ _ _ _ _ _ _ _ _ _ _ _ _ _ _ _ _ _ _ _ _ _ _ _ _ _ _ _ _ _ _ _ _ _ _ _ _ _ _ _ _ _ _ _ _ _ _ _ _ _ _ _ _ hS (by omega)
  · have c5 : (((x % 12 : Nat) : Int) == 6) = false := by simp only [beq_eq_false_iff_ne]; omega
    have c6 : decide ((sn : Int) ≥ 1) = false := decide_eq_false (by omega)
    have c7 : decide (((x % 12 : Nat) : Int) ≥ 7) = true := decide_eq_true (by omega)
    have c8 : decide (((x % 12 : Nat) : Int) < 10) = false := decide_eq_false (by omega)
    have c9 : decide (((x % 12 : Nat) : Int) ≥ 10) = true := decide_eq_true (by omega)
    simp -implicitDefEqProofs (maxDischargeDepth := 15) only [↓reduceIte, Yr, Ys, Yt, Yu, Yv, Yw, Yx, Yy, Yz, Wa, Wb, Wc, Wd, We, Wf, Wg, Wh, Wi, Wj, Wk, Wl, Wm, Wn, Wo, Wp, Wq, Wr, Ws, Wt, Wu, opA, Wv, Ww, Wx, Wy, Wz, Va, Za, Zb, List.replicate, Zc, Zd, Ze, Vb, Vc, Vd, Ve, Vf, AV.cells, Vg, Vh, Vi, Vj, AState.set_next, AState.kill_next, Vk, Vl, Vm, Vn, Vo, Vp, Vq, Vr, Vs, Vt, partA, Zf, Zg, Zh, Zi, if_true, if_false, Nat.reduceAdd, Nat.reduceLeDiff, Nat.reduceSub, Zj, Nat.zero_le, Zk, Zl, Zm, Zn, Zo, Zp, Zq, Zr, Zs, Zt, binA, eqA, kEq, nilEq, fillA, putL, allOne, Zu, Zv, AV.one, Zw, Zx, Zy, and_self, and_true, true_and, lenA, firstA, EndOk, resultA, oneOf, Zz, Ya, Yb, Yc, Yd, Ye, reduceCtorEq, Yf, Yg, natOf, upTo, bMax, bHigh, bLow, boundsA, evO, Yh, Yi, againOk, Vu, Vv, Vw, Yj, Yk, eq_self, Yl, Ym, Yn, setPs, or_true, true_or, false_or, or_false, ne_eq, Yo, Vx, Vy, Yp, Yq, i_law30_Built, c0_0, c0_1, c0_2, c0_3, c0_4, c0_5, c0_6, c0_7, c0_8, c0_9, c0_10, c0_11, c0_12, c0_13, c0_14, c0_15, c0_16, c0_17, c0_18, c0_19, c0_20, c0_21, c0_22, c0_23, c0_24, c0_25, c0_26, c0_27, c0_28, c0_29, c0_30, c0_31, c0_32, c0_33, c0_34, c0_35, c0_36, c0_37, c0_38, c0_39, c0_40, c0_41, c0_42, c0_43, c0_44, c0_45, c0_46, c0_47, c0_48, c0_49, c0_50, c0_51, c0_52, c0_53, c0_54, c0_55, c0_56, c0_57, c1, c2, c3, c4, c5, c6, c7, c8, c9]
    exact hQ _ _ _ _ _ _ _ _ _ _ _ _ _ _ _ _ _ _ _ _ _ _ _ _ _ _ _ _ _ _ _ _ _ _ _ _ _ _ _ _ _ _ _ _ _ _ _ _ _ _ _ _ _ _ _ _ _ _ _ _ _ _ _ _ _ _ _ _ _ _ _ _ _ _ _ _ _ _ _ _ _ _ _ _ _ _ _ _ _ _ _ _ _ _ _ _ _ _ _ _ _ _ _ _ _ _ _ _ _ _ _ _ _ _ _ _ _ _ _ _ _ _ _ _ _ _ _ _ _ _ _ _ _ _ _ _ _ _ _ _ _ _ _ _ _ _ _ _ _ _ _ _ _ _ _ _ _ _ _ _ _ _ _ _ _ _ _ _ _ _ _ _ _ _ _ _ _ _ _ _ _ _ _ _ _ _ _ _ _ _ _ _ _ _ hS (by omega)
end Go.Am
namespace Go.Am
open Go.RowKit Go.Proofs Do
set_option maxRecDepth 100000
theorem bsw {e : Nat} {σ1 σ' : AState} {v0 p2 : AV} {k : Nat} {so : Option (Nat × Nat)} {sn : Nat} {sc : Option Nat} {sz : Nat} {s : List F} {cs : List AV} (hS : Stk e σ1 σ' so sn sc sz s cs) (hsn : sn ≤ 20) {x : Nat} (hx : x < 256) {j1 j8 j9 j10 j11 j12 j13 j14 j15 j16 j17 j18 j19 j20 j21 j22 j23 j24 j25 j26 j27 j28 j29 j30 j31 j32 j33 j34 j35 j36 j37 j38 j39 j40 j41 j42 j43 j44 j45 j46 j47 j48 j49 j50 j51 j52 j53 j54 j55 j56 j57 j58 j59 j60 j61 j62 j63 j64 j65 j66 j67 j68 j69 j70 j71 j72 j73 j74 j75 j76 j77 j78 j79 j80 j81 j82 j83 j84 j85 j86 j87 j88 j89 j90 j91 j92 j93 j94 j95 j96 j97 j98 j99 j100 j101 j102 j103 j104 j105 j106 j107 j108 j109 j110 j111 j112 j113 j114 j115 j116 j117 j118 j119 j120 j121 j122 j123 j124 j125 j126 j127 j128 j129 j130 j131 j132 j133 j134 j135 j136 j137 j138 j139 j140 j141 j142 j143 j144 j145 j146 j147 j148 j149 j150 j151 j152 j153 j154 j155 j156 j157 j158 j159 j160 j161 j162 j163 j164 j165 j166 j167 j168 j169 j170 j171 j172 j173 j174 j175 j176 j177 j178 j179 j180 j181 j182 j183 j184 j185 j186 j187 j188 j189 j190 j191 : AV} {Q : Ex → List AV → AState → Prop}
    (hQ : ∀ (σ'' : AState) (so' : Option (Nat × Nat)) (sn' : Nat) (sc' : Option Nat) (sz' : Nat) (cs' : List AV) (j1 j5 j6 j7 j8 j9 j10 j11 j12 j13 j14 j15 j16 j17 j18 j19 j20 j21 j22 j23 j24 j25 j26 j27 j28 j29 j30 j31 j32 j33 j34 j35 j36 j37 j38 j39 j40 j41 j42 j43 j44 j45 j46 j47 j48 j49 j50 j51 j52 j53 j54 j55 j56 j57 j58 j59 j60 j61 j62 j63 j64 j65 j66 j67 j68 j69 j70 j71 j72 j73 j74 j75 j76 j77 j78 j79 j80 j81 j82 j83 j84 j85 j86 j87 j88 j89 j90 j91 j92 j93 j94 j95 j96 j97 j98 j99 j100 j101 j102 j103 j104 j105 j106 j107 j108 j109 j110 j111 j112 j113 j114 j115 j116 j117 j118 j119 j120 j121 j122 j123 j124 j125 j126 j127 j128 j129 j130 j131 j132 j133 j134 j135 j136 j137 j138 j139 j140 j141 j142 j143 j144 j145 j146 j147 j148 j149 j150 j151 j152 j153 j154 j155 j156 j157 j158 j159 j160 j161 j162 j163 j164 j165 j166 j167 j168 j169 j170 j171 j172 j173 j174 j175 j176 j177 j178 j179 j180 j181 j182 j183 j184 j185 j186 j187 j188 j189 j190 j191 : AV), Stk e σ1 σ'' so' sn' sc' sz' (bStep s x) cs' → sn' ≤ sn + 1 → Q .normal [v0, j1, p2, .slice so' sn' sc' sz', .int .i64 k, j5, j6, j7, j8, j9, j10, j11, j12, j13, j14, j15, j16, j17, j18, j19, j20, j21, j22, j23, j24, j25, j26, j27, j28, j29, j30, j31, j32, j33, j34, j35, j36, j37, j38, j39, j40, j41, j42, j43, j44, j45, j46, j47, j48, j49, j50, j51, j52, j53, j54, j55, j56, j57, j58, j59, j60, j61, j62, j63, j64, j65, j66, j67, j68, j69, j70, j71, j72, j73, j74, j75, j76, j77, j78, j79, j80, j81, j82, j83, j84, j85, j86, j87, j88, j89, j90, j91, j92, j93, j94, j95, j96, j97, j98, j99, j100, j101, j102, j103, j104, j105, j106, j107, j108, j109, j110, j111, j112, j113, j114, j115, j116, j117, j118, j119, j120, j121, j122, j123, j124, j125, j126, j127, j128, j129, j130, j131, j132, j133, j134, j135, j136, j137, j138, j139, j140, j141, j142, j143, j144, j145, j146, j147, j148, j149, j150, j151, j152, j153, j154, j155, j156, j157, j158, j159, j160, j161, j162, j163, j164, j165, j166, j167, j168, j169, j170, j171, j172, j173, j174, j175, j176, j177, j178, j179, j180, j181, j182, j183, j184, j185, j186, j187, j188, j189, j190, j191] σ'') :
    wpC RR Tryz.prog c0_31 [v0, j1, p2, .slice so sn sc sz, .int .i64 k, .int .i64 sn, .int .u8 (x / 12 : Nat), .int .u8 (x % 12 : Nat), j8, j9, j10, j11, j12, j13, j14, j15, j16, j17, j18, j19, j20, j21, j22, j23, j24, j25, j26, j27, j28, j29, j30, j31, j32, j33, j34, j35, j36, j37, j38, j39, j40, j41, j42, j43, j44, j45, j46, j47, j48, j49, j50, j51, j52, j53, j54, j55, j56, j57, j58, j59, j60, j61, j62, j63, j64, j65, j66, j67, j68, j69, j70, j71, j72, j73, j74, j75, j76, j77, j78, j79, j80, j81, j82, j83, j84, j85, j86, j87, j88, j89, j90, j91, j92, j93, j94, j95, j96, j97, j98, j99, j100, j101, j102, j103, j104, j105, j106, j107, j108, j109, j110, j111, j112, j113, j114, j115, j116, j117, j118, j119, j120, j121, j122, j123, j124, j125, j126, j127, j128, j129, j130, j131, j132, j133, j134, j135, j136, j137, j138, j139, j140, j141, j142, j143, j144, j145, j146, j147, j148, j149, j150, j151, j152, j153, j154, j155, j156, j157, j158, j159, j160, j161, j162, j163, j164, j165, j166, j167, j168, j169, j170, j171, j172, j173, j174, j175, j176, j177, j178, j179, j180, j181, j182, j183, j184, j185, j186, j187, j188, j189, j190, j191] σ' Q := by
  have h12 : x % 12 < 12 := Nat.mod_lt _ (by omega)
  by_cases h1 : x % 12 < 2
  · exact bsw1 hS hsn hx h1 hQ
  by_cases h2 : x % 12 < 4
  · exact bsw2 hS hsn hx ⟨by omega, h2⟩ hQ
  by_cases h3 : x % 12 = 4
  · exact bsw3 hS hsn hx h3 hQ
  by_cases h4 : x % 12 = 5
  · exact bsw4 hS hsn hx h4 hQ
  by_cases h5 : x % 12 = 6 ∧ 1 ≤ sn
  · exact bsw5 hS hsn hx h5 hQ
  by_cases h6 : 7 ≤ x % 12 ∧ x % 12 < 10 ∧ 2 ≤ sn
  · exact bsw6 hS hsn hx h6 hQ
  by_cases h7 : 10 ≤ x % 12 ∧ 1 ≤ sn
  · exact bsw7 hS hsn hx h7 hQ
  · exact bsw8 hS hsn hx (by omega) hQ
theorem list_range {ts : List AV} {n : Nat} (h : ts.length = n) : ts = (List.range n).map (fun i => ts.getD i U) := by
  refine List.ext_getElem? fun i => ?_
  rw [List.getElem?_map]
  rcases Nat.lt_or_ge i n with q | q
  · rw [List.getElem?_range q, List.getElem?_eq_getElem (by omega)]
    simp [List.getD, List.getElem?_eq_getElem (show i < ts.length by omega)]
  · rw [List.getElem?_eq_none (by omega), List.getElem?_eq_none (by simpa using q)]; rfl
structure BLive (ts : List AV) (v0 v2 v3 v4 : AV) : Prop where
  len : ts.length = 192
  t0 : ts.getD 0 U = v0
  t2 : ts.getD 2 U = v2
  t3 : ts.getD 3 U = v3
  t4 : ts.getD 4 U = v4
theorem BLive.open {ts : List AV} {v0 v2 v3 v4 : AV} (h : BLive ts v0 v2 v3 v4) : ∃ a : Nat → AV, ts = [v0, a 1, v2, v3, v4, a 5, a 6, a 7, a 8, a 9, a 10, a 11, a 12, a 13, a 14, a 15, a 16, a 17, a 18, a 19, a 20, a 21, a 22, a 23, a 24, a 25, a 26, a 27, a 28, a 29, a 30, a 31, a 32, a 33, a 34, a 35, a 36, a 37, a 38, a 39, a 40, a 41, a 42, a 43, a 44, a 45, a 46, a 47, a 48, a 49, a 50, a 51, a 52, a 53, a 54, a 55, a 56, a 57, a 58, a 59, a 60, a 61, a 62, a 63, a 64, a 65, a 66, a 67, a 68, a 69, a 70, a 71, a 72, a 73, a 74, a 75, a 76, a 77, a 78, a 79, a 80, a 81, a 82, a 83, a 84, a 85, a 86, a 87, a 88, a 89, a 90, a 91, a 92, a 93, a 94, a 95, a 96, a 97, a 98, a 99, a 100, a 101, a 102, a 103, a 104, a 105, a 106, a 107, a 108, a 109, a 110, a 111, a 112, a 113, a 114, a 115, a 116, a 117, a 118, a 119, a 120, a 121, a 122, a 123, a 124, a 125, a 126, a 127, a 128, a 129, a 130, a 131, a 132, a 133, a 134, a 135, a 136, a 137, a 138, a 139, a 140, a 141, a 142, a 143, a 144, a 145, a 146, a 147, a 148, a 149, a 150, a 151, a 152, a 153, a 154, a 155, a 156, a 157, a 158, a 159, a 160, a 161, a 162, a 163, a 164, a 165, a 166, a 167, a 168, a 169, a 170, a 171, a 172, a 173, a 174, a 175, a 176, a 177, a 178, a 179, a 180, a 181, a 182, a 183, a 184, a 185, a 186, a 187, a 188, a 189, a 190, a 191] := by
  have h1 := list_range h.len
  refine ⟨fun i => ts.getD i U, ?_⟩
  rw [← h.t0, ← h.t2, ← h.t3, ← h.t4]
  exact h1
structure BLive2 (ts : List AV) (v2 v3 v8 v9 : AV) : Prop where
  len : ts.length = 192
  t2 : ts.getD 2 U = v2
  t3 : ts.getD 3 U = v3
  t8 : ts.getD 8 U = v8
  t9 : ts.getD 9 U = v9
theorem BLive2.open {ts : List AV} {v2 v3 v8 v9 : AV} (h : BLive2 ts v2 v3 v8 v9) : ∃ a : Nat → AV, ts = [a 0, a 1, v2, v3, a 4, a 5, a 6, a 7, v8, v9, a 10, a 11, a 12, a 13, a 14, a 15, a 16, a 17, a 18, a 19, a 20, a 21, a 22, a 23, a 24, a 25, a 26, a 27, a 28, a 29, a 30, a 31, a 32, a 33, a 34, a 35, a 36, a 37, a 38, a 39, a 40, a 41, a 42, a 43, a 44, a 45, a 46, a 47, a 48, a 49, a 50, a 51, a 52, a 53, a 54, a 55, a 56, a 57, a 58, a 59, a 60, a 61, a 62, a 63, a 64, a 65, a 66, a 67, a 68, a 69, a 70, a 71, a 72, a 73, a 74, a 75, a 76, a 77, a 78, a 79, a 80, a 81, a 82, a 83, a 84, a 85, a 86, a 87, a 88, a 89, a 90, a 91, a 92, a 93, a 94, a 95, a 96, a 97, a 98, a 99, a 100, a 101, a 102, a 103, a 104, a 105, a 106, a 107, a 108, a 109, a 110, a 111, a 112, a 113, a 114, a 115, a 116, a 117, a 118, a 119, a 120, a 121, a 122, a 123, a 124, a 125, a 126, a 127, a 128, a 129, a 130, a 131, a 132, a 133, a 134, a 135, a 136, a 137, a 138, a 139, a 140, a 141, a 142, a 143, a 144, a 145, a 146, a 147, a 148, a 149, a 150, a 151, a 152, a 153, a 154, a 155, a 156, a 157, a 158, a 159, a 160, a 161, a 162, a 163, a 164, a 165, a 166, a 167, a 168, a 169, a 170, a 171, a 172, a 173, a 174, a 175, a 176, a 177, a 178, a 179, a 180, a 181, a 182, a 183, a 184, a 185, a 186, a 187, a 188, a 189, a 190, a 191] := by
  have h1 := list_range h.len
  refine ⟨fun i => ts.getD i U, ?_⟩
  rw [← h.t2, ← h.t3, ← h.t8, ← h.t9]
  exact h1
theorem untils_take {f : F} {r : List F} {j : Nat} {g : F} (h : r[j]? = some g) : untils f (r.take (j + 1)) = .mk 14 [] [] [untils f (r.take j), g] := by
  unfold untils
  rw [foldl_take _ _ h]
theorem kept_but {σ3 σ'' : AState} {i8 e : Nat} (h : Kept (fun i => i = i8) σ3 σ'') : Sub (but e σ3 (some (i8, 0))) (but e σ'' (some (i8, 0))) := fun j b q => by
  obtain ⟨h1, h2, h3⟩ := but_some q
  exact but_mk h1 (h.keep j b (fun w => h1 (by rw [w])) h2) h3
set_option maxHeartbeats 4000000 in
theorem built_tail {σ σ' : AState} {ts : List AV} {v0 v4 : AV} {so : Option (Nat × Nat)} {sn : Nat} {sc : Option Nat} {sz : Nat} {s : List F} {cs : List AV} (hLv0 : BLive ts v0 (.ptr (some (σ.next, 0))) (.slice so sn sc sz) v4) (hW : σ.Wf) (hS : Stk σ.next (σ.push (.cells [.int .u8 0, .str [], nilA, nilA] true)) σ' so sn sc sz s cs) (hsn : sn ≤ 20) :
    wpC RR Tryz.prog c0_54 ts σ' (EndOk [(2, some (some 4))] (fun u σ' => ∃ xs, u = .agg xs ∧ DAtL σ'.get (match s with | [] => F.mk 2 [] [] [] | f :: r => untils f r).dv xs ∧ Grow σ σ')) := by
  obtain ⟨a, rfl⟩ := hLv0.open
  have hW1 := hW.push (.cells [.int .u8 0, .str [], nilA, nilA] true)
  have hG : Grow σ σ' := ⟨Nat.le_of_succ_le hS.grown.le, fun i b e => hS.grown.keep i b (sub_push hW _ i b e), hS.grown.wf⟩
  have h2 : σ'.get σ.next = some (.cells [.int .u8 0, .str [], nilA, nilA] true) := hS.grown.keep _ _ Vg
  have h2l := hS.grown.wf.lt h2
  have hlen := hS.len
  cases s with
  | nil =>
    have hs0 : sn = 0 := by simpa using hlen.symm
    subst hs0
    simp -implicitDefEqProofs (maxDischargeDepth := 15) only [↓reduceIte, Yr, Ys, Yt, Yu, Yv, Yw, Yx, Yy, Yz, Wa, Wb, Wc, Wd, We, Wf, Wg, Wh, Wi, Wj, Wk, Wl, Wm, Wn, Wo, Wp, Wq, Wr, Ws, Wt, Wu, opA, Wv, Ww, Wx, Wy, Wz, Va, Za, Zb, List.replicate, Zc, Zd, Ze, Vb, Vc, Vd, Ve, Vf, AV.cells, Vg, Vh, Vi, Vj, AState.set_next, AState.kill_next, Vk, Vl, Vm, Vn, Vo, Vp, Vq, Vr, Vs, Vt, partA, Zf, Zg, Zh, Zi, if_true, if_false, Nat.reduceAdd, Nat.reduceLeDiff, Nat.reduceSub, Zj, Nat.zero_le, Zk, Zl, Zm, Zn, Zo, Zp, Zq, Zr, Zs, Zt, binA, eqA, kEq, nilEq, fillA, putL, allOne, Zu, Zv, AV.one, Zw, Zx, Zy, and_self, and_true, true_and, lenA, firstA, EndOk, resultA, oneOf, Zz, Ya, Yb, Yc, Yd, Ye, reduceCtorEq, Yf, Yg, natOf, upTo, bMax, bHigh, bLow, boundsA, evO, Yh, Yi, againOk, Vu, Vv, Vw, Yj, Yk, eq_self, Yl, Ym, Yn, setPs, or_true, true_or, false_or, or_false, ne_eq, Yo, Vx, Vy, Yp, Yq, i_law30_Built, c0_0, c0_1, c0_2, c0_3, c0_4, c0_5, c0_6, c0_7, c0_8, c0_9, c0_10, c0_11, c0_12, c0_13, c0_14, c0_15, c0_16, c0_17, c0_18, c0_19, c0_20, c0_21, c0_22, c0_23, c0_24, c0_25, c0_26, c0_27, c0_28, c0_29, c0_30, c0_31, c0_32, c0_33, c0_34, c0_35, c0_36, c0_37, c0_38, c0_39, c0_40, c0_41, c0_42, c0_43, c0_44, c0_45, c0_46, c0_47, c0_48, c0_49, c0_50, c0_51, c0_52, c0_53, c0_54, c0_55, c0_56, c0_57, show (((0 : Nat) : Int) == 0) = true from rfl]
    refine RunV.to (joinB_ok _ _ _ _ _ _) ?_
    simp -implicitDefEqProofs (maxDischargeDepth := 15) only [↓reduceIte, Yr, Ys, Yt, Yu, Yv, Yw, Yx, Yy, Yz, Wa, Wb, Wc, Wd, We, Wf, Wg, Wh, Wi, Wj, Wk, Wl, Wm, Wn, Wo, Wp, Wq, Wr, Ws, Wt, Wu, opA, Wv, Ww, Wx, Wy, Wz, Va, Za, Zb, List.replicate, Zc, Zd, Ze, Vb, Vc, Vd, Ve, Vf, AV.cells, Vg, Vh, Vi, Vj, AState.set_next, AState.kill_next, Vk, Vl, Vm, Vn, Vo, Vp, Vq, Vr, Vs, Vt, partA, Zf, Zg, Zh, Zi, if_true, if_false, Nat.reduceAdd, Nat.reduceLeDiff, Nat.reduceSub, Zj, Nat.zero_le, Zk, Zl, Zm, Zn, Zo, Zp, Zq, Zr, Zs, Zt, binA, eqA, kEq, nilEq, fillA, putL, allOne, Zu, Zv, AV.one, Zw, Zx, Zy, and_self, and_true, true_and, lenA, firstA, EndOk, resultA, oneOf, Zz, Ya, Yb, Yc, Yd, Ye, reduceCtorEq, Yf, Yg, natOf, upTo, bMax, bHigh, bLow, boundsA, evO, Yh, Yi, againOk, Vu, Vv, Vw, Yj, Yk, eq_self, Yl, Ym, Yn, setPs, or_true, true_or, false_or, or_false, ne_eq, Yo, Vx, Vy, Yp, Yq, i_law30_Built, c0_0, c0_1, c0_2, c0_3, c0_4, c0_5, c0_6, c0_7, c0_8, c0_9, c0_10, c0_11, c0_12, c0_13, c0_14, c0_15, c0_16, c0_17, c0_18, c0_19, c0_20, c0_21, c0_22, c0_23, c0_24, c0_25, c0_26, c0_27, c0_28, c0_29, c0_30, c0_31, c0_32, c0_33, c0_34, c0_35, c0_36, c0_37, c0_38, c0_39, c0_40, c0_41, c0_42, c0_43, c0_44, c0_45, c0_46, c0_47, c0_48, c0_49, c0_50, c0_51, c0_52, c0_53, c0_54, c0_55, c0_56, c0_57, h2, h2l]
    exact ⟨_, rfl, fdat (dat_nil _ 3) (dat_nil _ 4), (hG.push _).set hW (Nat.le_refl _) (by simp only [AState.push_next]; omega) _⟩
  | cons f r =>
    have c0 : ((sn : Int) == 0) = false := by simp only [beq_eq_false_iff_ne]; simp only [List.length_cons] at hlen; omega
    obtain ⟨rfl, i, xs, rfl, hgi, hl4, hxs, hd⟩ := hS.elem (k := 0) (f := f) rfl
    simp only [Nat.zero_mul, Nat.zero_add, List.drop_zero] at hl4 hxs
    obtain ⟨fo, fn, fa, fl, ef⟩ := form_is f
    have hd0 := hd
    rw [ef] at hd
    obtain ⟨o1, q1, z1, o2, q2, z2, rfl, _, _⟩ := F.cells hd
    have e0 : (0 : Int) ≤ 0 ∧ (0 : Int) < (sn : Int) := by simp only [List.length_cons] at hlen; omega
    have hil := hS.grown.wf.lt hgi
    simp -implicitDefEqProofs (maxDischargeDepth := 15) only [↓reduceIte, Yr, Ys, Yt, Yu, Yv, Yw, Yx, Yy, Yz, Wa, Wb, Wc, Wd, We, Wf, Wg, Wh, Wi, Wj, Wk, Wl, Wm, Wn, Wo, Wp, Wq, Wr, Ws, Wt, Wu, opA, Wv, Ww, Wx, Wy, Wz, Va, Za, Zb, List.replicate, Zc, Zd, Ze, Vb, Vc, Vd, Ve, Vf, AV.cells, Vg, Vh, Vi, Vj, AState.set_next, AState.kill_next, Vk, Vl, Vm, Vn, Vo, Vp, Vq, Vr, Vs, Vt, partA, Zf, Zg, Zh, Zi, if_true, if_false, Nat.reduceAdd, Nat.reduceLeDiff, Nat.reduceSub, Zj, Nat.zero_le, Zk, Zl, Zm, Zn, Zo, Zp, Zq, Zr, Zs, Zt, binA, eqA, kEq, nilEq, fillA, putL, allOne, Zu, Zv, AV.one, Zw, Zx, Zy, and_self, and_true, true_and, lenA, firstA, EndOk, resultA, oneOf, Zz, Ya, Yb, Yc, Yd, Ye, reduceCtorEq, Yf, Yg, natOf, upTo, bMax, bHigh, bLow, boundsA, evO, Yh, Yi, againOk, Vu, Vv, Vw, Yj, Yk, eq_self, Yl, Ym, Yn, setPs, or_true, true_or, false_or, or_false, ne_eq, Yo, Vx, Vy, Yp, Yq, i_law30_Built, c0_0, c0_1, c0_2, c0_3, c0_4, c0_5, c0_6, c0_7, c0_8, c0_9, c0_10, c0_11, c0_12, c0_13, c0_14, c0_15, c0_16, c0_17, c0_18, c0_19, c0_20, c0_21, c0_22, c0_23, c0_24, c0_25, c0_26, c0_27, c0_28, c0_29, c0_30, c0_31, c0_32, c0_33, c0_34, c0_35, c0_36, c0_37, c0_38, c0_39, c0_40, c0_41, c0_42, c0_43, c0_44, c0_45, c0_46, c0_47, c0_48, c0_49, c0_50, c0_51, c0_52, c0_53, c0_54, c0_55, c0_56, c0_57, c0, e0, hgi, hil, hl4, hxs]
    have hWs := hS.grown.wf
    have hS3 := hS.push (.cells [.int .u8 fo, .str fn, .slice o1 fa.length q1 z1, .slice o2 fl.length q2 z2] true)
    have hG3 := hG.push (.cells [.int .u8 fo, .str fn, .slice o1 fa.length q1 z1, .slice o2 fl.length q2 z2] true)
    have hd3 : DAtL (but σ.next (σ'.push (.cells [.int .u8 fo, .str fn, .slice o1 fa.length q1 z1, .slice o2 fl.length q2 z2] true)) (some (σ'.next, 0))) f.dv [.int .u8 fo, .str fn, .slice o1 fa.length q1 z1, .slice o2 fl.length q2 z2] := by
      refine DAtL.sub (fun j b q => ?_) _ _ hd0
      obtain ⟨h1, h2, h3⟩ := but_some q
      exact but_mk (fun w => by cases w; have := hWs.lt h2; omega) (sub_push hWs _ j b h2) h3
    refine wp_loop (fun ts σ'' m => ∃ (j : Nat) (ys : List AV), Kept (fun i => i = σ'.next) (σ'.push (.cells [.int .u8 fo, .str fn, .slice o1 fa.length q1 z1, .slice o2 fl.length q2 z2] true)) σ'' ∧ σ''.get σ'.next = some (.cells ys true) ∧
      DAtL (but σ.next σ'' (some (σ'.next, 0))) (untils f (r.take j)).dv ys ∧ j + 1 + m = sn ∧ BLive2 ts (.ptr (some (σ.next, 0))) (.slice (some (i, 0)) sn sc 4) (.ptr (some (σ'.next, 0))) (.int .i64 ((j + 1 : Nat) : Int))) (sn - 1)
      ⟨0, _, Kept.refl (hWs.push _), Vg, hd3, by simp only [List.length_cons] at hlen; omega, rfl, rfl, rfl, rfl, rfl⟩ ?_
    rintro m ts σ'' ⟨j, ys, hK, hg8, hdy, hjm, hLv⟩
    obtain ⟨a, rfl⟩ := hLv.open
    have h8l := hK.wf.lt hg8
    obtain ⟨uo, un, ua, ul, eu⟩ := form_is (untils f (r.take j))
    have hdy0 := hdy
    rw [eu] at hdy
    obtain ⟨p1, p2, p3, p4, p5, p6, rfl, _, _⟩ := F.cells hdy
    by_cases hlt : j + 1 < sn
    · have c1 : decide (((j + 1 : Nat) : Int) < (sn : Int)) = true := decide_eq_true (by omega)
      obtain ⟨g, hg, _⟩ := get_lt (l := r) (k := j) (by simp only [List.length_cons] at hlen; omega)
      obtain ⟨_, i2, zs, e2, hgi2, hl42, hzs, hdg⟩ := hS.elem (k := j + 1) (f := g) (by simpa using hg)
      cases e2
      obtain ⟨go, gn, ga, gl, eg⟩ := form_is g
      have hdg0 := hdg
      rw [eg] at hdg
      obtain ⟨r1, r2, r3, r4, r5, r6, rfl, _, _⟩ := F.cells hdg
      have hgk := hK.keep i _ (by omega) (sub_push hWs _ _ _ hgi)
      have hgkl := hK.wf.lt hgk
      have e4 : (0 : Int) ≤ ((j + 1 : Nat) : Int) ∧ ((j + 1 : Nat) : Int) < (sn : Int) := by omega
      have hne8 : i ≠ σ'.next := by omega
      simp -implicitDefEqProofs (maxDischargeDepth := 15) only [↓reduceIte, Yr, Ys, Yt, Yu, Yv, Yw, Yx, Yy, Yz, Wa, Wb, Wc, Wd, We, Wf, Wg, Wh, Wi, Wj, Wk, Wl, Wm, Wn, Wo, Wp, Wq, Wr, Ws, Wt, Wu, opA, Wv, Ww, Wx, Wy, Wz, Va, Za, Zb, List.replicate, Zc, Zd, Ze, Vb, Vc, Vd, Ve, Vf, AV.cells, Vg, Vh, Vi, Vj, AState.set_next, AState.kill_next, Vk, Vl, Vm, Vn, Vo, Vp, Vq, Vr, Vs, Vt, partA, Zf, Zg, Zh, Zi, if_true, if_false, Nat.reduceAdd, Nat.reduceLeDiff, Nat.reduceSub, Zj, Nat.zero_le, Zk, Zl, Zm, Zn, Zo, Zp, Zq, Zr, Zs, Zt, binA, eqA, kEq, nilEq, fillA, putL, allOne, Zu, Zv, AV.one, Zw, Zx, Zy, and_self, and_true, true_and, lenA, firstA, EndOk, resultA, oneOf, Zz, Ya, Yb, Yc, Yd, Ye, reduceCtorEq, Yf, Yg, natOf, upTo, bMax, bHigh, bLow, boundsA, evO, Yh, Yi, againOk, Vu, Vv, Vw, Yj, Yk, eq_self, Yl, Ym, Yn, setPs, or_true, true_or, false_or, or_false, ne_eq, Yo, Vx, Vy, Yp, Yq, i_law30_Built, c0_0, c0_1, c0_2, c0_3, c0_4, c0_5, c0_6, c0_7, c0_8, c0_9, c0_10, c0_11, c0_12, c0_13, c0_14, c0_15, c0_16, c0_17, c0_18, c0_19, c0_20, c0_21, c0_22, c0_23, c0_24, c0_25, c0_26, c0_27, c0_28, c0_29, c0_30, c0_31, c0_32, c0_33, c0_34, c0_35, c0_36, c0_37, c0_38, c0_39, c0_40, c0_41, c0_42, c0_43, c0_44, c0_45, c0_46, c0_47, c0_48, c0_49, c0_50, c0_51, c0_52, c0_53, c0_54, c0_55, c0_56, c0_57, c1, e4, hg8, h8l, hgk, hgkl, hl42, hzs]
      refine RunV.to (joinB_ok _ _ _ _ _ _) ?_
      have h8n : σ'.next < σ''.next := h8l
      simp -implicitDefEqProofs (maxDischargeDepth := 15) only [↓reduceIte, Yr, Ys, Yt, Yu, Yv, Yw, Yx, Yy, Yz, Wa, Wb, Wc, Wd, We, Wf, Wg, Wh, Wi, Wj, Wk, Wl, Wm, Wn, Wo, Wp, Wq, Wr, Ws, Wt, Wu, opA, Wv, Ww, Wx, Wy, Wz, Va, Za, Zb, List.replicate, Zc, Zd, Ze, Vb, Vc, Vd, Ve, Vf, AV.cells, Vg, Vh, Vi, Vj, AState.set_next, AState.kill_next, Vk, Vl, Vm, Vn, Vo, Vp, Vq, Vr, Vs, Vt, partA, Zf, Zg, Zh, Zi, if_true, if_false, Nat.reduceAdd, Nat.reduceLeDiff, Nat.reduceSub, Zj, Nat.zero_le, Zk, Zl, Zm, Zn, Zo, Zp, Zq, Zr, Zs, Zt, binA, eqA, kEq, nilEq, fillA, putL, allOne, Zu, Zv, AV.one, Zw, Zx, Zy, and_self, and_true, true_and, lenA, firstA, EndOk, resultA, oneOf, Zz, Ya, Yb, Yc, Yd, Ye, reduceCtorEq, Yf, Yg, natOf, upTo, bMax, bHigh, bLow, boundsA, evO, Yh, Yi, againOk, Vu, Vv, Vw, Yj, Yk, eq_self, Yl, Ym, Yn, setPs, or_true, true_or, false_or, or_false, ne_eq, Yo, Vx, Vy, Yp, Yq, i_law30_Built, c0_0, c0_1, c0_2, c0_3, c0_4, c0_5, c0_6, c0_7, c0_8, c0_9, c0_10, c0_11, c0_12, c0_13, c0_14, c0_15, c0_16, c0_17, c0_18, c0_19, c0_20, c0_21, c0_22, c0_23, c0_24, c0_25, c0_26, c0_27, c0_28, c0_29, c0_30, c0_31, c0_32, c0_33, c0_34, c0_35, c0_36, c0_37, c0_38, c0_39, c0_40, c0_41, c0_42, c0_43, c0_44, c0_45, c0_46, c0_47, c0_48, c0_49, c0_50, c0_51, c0_52, c0_53, c0_54, c0_55, c0_56, c0_57, hg8, h8l]
      rw [wrap_i64 (n := ((j + 1 : Nat) : Int) + 1) (by omega)]
      have hW5 := hK.wf
      have hk5 : Kept (fun i => i = σ'.next) σ'' ((((σ''.push (.cells [.int .u8 uo, .str un, .slice p1 ua.length p2 p3, .slice p4 ul.length p5 p6, .int .u8 go, .str gn, .slice r1 ga.length r2 r3, .slice r4 gl.length r5 r6] true)).push (.cells [.int .u8 14, .str [], nilA, .slice (some (σ''.next, 0)) 2 (some 2) 4] true)).set σ'.next (.cells [.int .u8 14, .str [], nilA, .slice (some (σ''.next, 0)) 2 (some 2) 4] true))) :=
        ⟨by simp only [AState.set_next, AState.push_next]; omega, fun i b hi e => by rw [Vl hi]; exact sub_push (hW5.push _) _ i b (sub_push hW5 _ i b e), ((hW5.push _).push _).set (by simp only [AState.push_next]; omega) _⟩
      refine ⟨m - 1, by omega, j + 1, _, hK.trans hk5, rfl, ?_, by omega, rfl, rfl, rfl, rfl, rfl⟩
      rw [untils_take hg]
      refine fdat (dat_nil _ 3) ?_
      refine dat_sl (cs := [.int .u8 uo, .str un, .slice p1 ua.length p2 p3, .slice p4 ul.length p5 p6] ++ [.int .u8 go, .str gn, .slice r1 ga.length r2 r3, .slice r4 gl.length r5 r6]) (w := true) (some 2) (but_mk (fun w => by simp only [Option.some.injEq, Prod.mk.injEq] at w; omega) ?_ (by have := hS.el; omega)) rfl ?_
      · rw [Vl (by omega), Vh Vi, Vg]; rfl
      · show DAtL _ ((untils f (r.take j)).dv ++ (g.dv ++ [])) _
        rw [List.append_nil]
        refine DAtL.append_iff.2 ⟨_, _, rfl, DAtL.sub (kept_but hk5) _ _ hdy0, ?_⟩
        refine DAtL.sub (fun j b q => ?_) _ _ hdg0
        obtain ⟨h1, h2, h3⟩ := but_some q
        have hjl := hWs.lt h2
        exact but_mk (fun w => by cases w; omega) (hk5.keep j b (by omega) (hK.keep j b (by omega) (sub_push hWs _ j b h2))) h3
    · have c1 : decide (((j + 1 : Nat) : Int) < (sn : Int)) = false := decide_eq_false (by omega)
      have hrt : r.take j = r := List.take_of_length_le (by simp only [List.length_cons] at hlen; omega)
      rw [hrt] at hdy0
      have h2k := hK.keep σ.next _ (by omega) (sub_push hWs _ _ _ h2)
      have h2kl := hK.wf.lt h2k
      simp -implicitDefEqProofs (maxDischargeDepth := 15) only [↓reduceIte, Yr, Ys, Yt, Yu, Yv, Yw, Yx, Yy, Yz, Wa, Wb, Wc, Wd, We, Wf, Wg, Wh, Wi, Wj, Wk, Wl, Wm, Wn, Wo, Wp, Wq, Wr, Ws, Wt, Wu, opA, Wv, Ww, Wx, Wy, Wz, Va, Za, Zb, List.replicate, Zc, Zd, Ze, Vb, Vc, Vd, Ve, Vf, AV.cells, Vg, Vh, Vi, Vj, AState.set_next, AState.kill_next, Vk, Vl, Vm, Vn, Vo, Vp, Vq, Vr, Vs, Vt, partA, Zf, Zg, Zh, Zi, if_true, if_false, Nat.reduceAdd, Nat.reduceLeDiff, Nat.reduceSub, Zj, Nat.zero_le, Zk, Zl, Zm, Zn, Zo, Zp, Zq, Zr, Zs, Zt, binA, eqA, kEq, nilEq, fillA, putL, allOne, Zu, Zv, AV.one, Zw, Zx, Zy, and_self, and_true, true_and, lenA, firstA, EndOk, resultA, oneOf, Zz, Ya, Yb, Yc, Yd, Ye, reduceCtorEq, Yf, Yg, natOf, upTo, bMax, bHigh, bLow, boundsA, evO, Yh, Yi, againOk, Vu, Vv, Vw, Yj, Yk, eq_self, Yl, Ym, Yn, setPs, or_true, true_or, false_or, or_false, ne_eq, Yo, Vx, Vy, Yp, Yq, i_law30_Built, c0_0, c0_1, c0_2, c0_3, c0_4, c0_5, c0_6, c0_7, c0_8, c0_9, c0_10, c0_11, c0_12, c0_13, c0_14, c0_15, c0_16, c0_17, c0_18, c0_19, c0_20, c0_21, c0_22, c0_23, c0_24, c0_25, c0_26, c0_27, c0_28, c0_29, c0_30, c0_31, c0_32, c0_33, c0_34, c0_35, c0_36, c0_37, c0_38, c0_39, c0_40, c0_41, c0_42, c0_43, c0_44, c0_45, c0_46, c0_47, c0_48, c0_49, c0_50, c0_51, c0_52, c0_53, c0_54, c0_55, c0_56, c0_57, c1, hg8, h2k]
      refine ⟨_, rfl, DAtL.sub (fun j b q => ?_) _ _ hdy0, ?_⟩
      · obtain ⟨h1, h2, h3⟩ := but_some q
        rw [Vl h3]; exact h2
      · refine (Grow.mk (Nat.le_trans hG3.le hK.le) (fun i b e => hK.keep i b (by have := hW.lt e; omega) (hG3.sub i b e)) hK.wf).set hW (Nat.le_refl _) h2kl _
set_option maxHeartbeats 4000000 in
theorem built_ok {σ : AState} {o : Option (Nat × Nat)} {n : Nat} {c : Option Nat} {z : Nat} {l : List Nat} (hB : Bys σ.get o n z l) (hx : ∀ x ∈ l, x < 256) :
    RunF RR Tryz.prog n_law30_Built [.slice o n c z] σ (fun u σ' => ∃ xs, u = .agg xs ∧ DAtL σ'.get (built l).dv xs ∧ Grow σ σ') := by
  refine RunV.wf fun hW => ?_
  refine runF_intro hmx rf_law30_Built ?_
  have hlen := hB.len
  have hW1 := hW.push (.cells [.int .u8 0, .str [], nilA, nilA] true)
  have hB1 := hB.sub (sub_push hW (.cells [.int .u8 0, .str [], nilA, nilA] true))
  simp -implicitDefEqProofs (maxDischargeDepth := 15) only [↓reduceIte, Yr, Ys, Yt, Yu, Yv, Yw, Yx, Yy, Yz, Wa, Wb, Wc, Wd, We, Wf, Wg, Wh, Wi, Wj, Wk, Wl, Wm, Wn, Wo, Wp, Wq, Wr, Ws, Wt, Wu, opA, Wv, Ww, Wx, Wy, Wz, Va, Za, Zb, List.replicate, Zc, Zd, Ze, Vb, Vc, Vd, Ve, Vf, AV.cells, Vg, Vh, Vi, Vj, AState.set_next, AState.kill_next, Vk, Vl, Vm, Vn, Vo, Vp, Vq, Vr, Vs, Vt, partA, Zf, Zg, Zh, Zi, if_true, if_false, Nat.reduceAdd, Nat.reduceLeDiff, Nat.reduceSub, Zj, Nat.zero_le, Zk, Zl, Zm, Zn, Zo, Zp, Zq, Zr, Zs, Zt, binA, eqA, kEq, nilEq, fillA, putL, allOne, Zu, Zv, AV.one, Zw, Zx, Zy, and_self, and_true, true_and, lenA, firstA, EndOk, resultA, oneOf, Zz, Ya, Yb, Yc, Yd, Ye, reduceCtorEq, Yf, Yg, natOf, upTo, bMax, bHigh, bLow, boundsA, evO, Yh, Yi, againOk, Vu, Vv, Vw, Yj, Yk, eq_self, Yl, Ym, Yn, setPs, or_true, true_or, false_or, or_false, ne_eq, Yo, Vx, Vy, Yp, Yq, i_law30_Built, c0_0, c0_1, c0_2, c0_3, c0_4, c0_5, c0_6, c0_7, c0_8, c0_9, c0_10, c0_11, c0_12, c0_13, c0_14, c0_15, c0_16, c0_17, c0_18, c0_19, c0_20, c0_21, c0_22, c0_23, c0_24, c0_25, c0_26, c0_27, c0_28, c0_29, c0_30, c0_32, c0_33, c0_34, c0_35, c0_36, c0_37, c0_38, c0_39, c0_40, c0_41, c0_42, c0_43, c0_44, c0_45, c0_46, c0_47, c0_48, c0_49, c0_50, c0_51, c0_52, c0_53, c0_55, c0_56, c0_57]
  have h0 : Stk σ.next (σ.push (.cells [.int .u8 0, .str [], nilA, nilA] true)) (σ.push (.cells [.int .u8 0, .str [], nilA, nilA] true)) none 0 (some 0) 0 ((l.take 0).foldl bStep []) [] :=
    ⟨Grown.nil hW1 hW1 (fun _ _ e => e) (Nat.le_refl _) _ _ _, by simp [F.dvs, DAtL], rfl, Nat.lt_succ_self _⟩
  refine wp_loop (fun ts σ' m => ∃ (k : Nat) (so : Option (Nat × Nat)) (sn : Nat) (sc : Option Nat) (sz : Nat) (cs : List AV), Stk σ.next (σ.push (.cells [.int .u8 0, .str [], nilA, nilA] true)) σ' so sn sc sz ((l.take k).foldl bStep []) cs ∧ sn ≤ k ∧ k ≤ 20 ∧ k + m = min n 20 ∧
    BLive ts (.slice o n c z) (.ptr (some (σ.next, 0))) (.slice so sn sc sz) (.int .i64 k)) (min n 20) ⟨0, none, 0, some 0, 0, [], h0, Nat.le_refl _, by omega, by omega, rfl, rfl, rfl, rfl, rfl⟩ ?_
  rintro m ts σ' ⟨k, so, sn, sc, sz, cs, hS, hsk, hk20, hkm, hLv⟩
  obtain ⟨a, rfl⟩ := hLv.open
  have hsn : (((l.take k).foldl bStep []).length) = sn := hS.len
  by_cases hlt : k < min n 20
  · obtain ⟨x, hxk, hxm⟩ := get_lt (l := l) (k := k) (by omega)
    have hx8 := hx x hxm
    obtain ⟨rfl, i, off, bs, w, rfl, hg, hbe⟩ := (hB1.sub hS.grown.keep).elem hxk
    have c1 : decide ((k : Int) < (n : Int)) = true := decide_eq_true (by omega)
    have c2 : decide ((k : Int) < 20) = true := decide_eq_true (by omega)
    have e1 : (0 : Int) ≤ (k : Int) ∧ (k : Int) < (n : Int) := by omega
    have d12 : wrapF .u8 ((x : Int).tdiv 12) = ((x / 12 : Nat) : Int) := by rw [show (12 : Int) = ((12 : Nat) : Int) from rfl, tdivN, wrap_u8 (by omega)]
    have m12 : (x : Int).tmod 12 = ((x % 12 : Nat) : Int) := tmodN x 12
    have z12 : ((12 : Int) = 0) = False := by simp
    simp -implicitDefEqProofs (maxDischargeDepth := 15) only [↓reduceIte, Yr, Ys, Yt, Yu, Yv, Yw, Yx, Yy, Yz, Wa, Wb, Wc, Wd, We, Wf, Wg, Wh, Wi, Wj, Wk, Wl, Wm, Wn, Wo, Wp, Wq, Wr, Ws, Wt, Wu, opA, Wv, Ww, Wx, Wy, Wz, Va, Za, Zb, List.replicate, Zc, Zd, Ze, Vb, Vc, Vd, Ve, Vf, AV.cells, Vg, Vh, Vi, Vj, AState.set_next, AState.kill_next, Vk, Vl, Vm, Vn, Vo, Vp, Vq, Vr, Vs, Vt, partA, Zf, Zg, Zh, Zi, if_true, if_false, Nat.reduceAdd, Nat.reduceLeDiff, Nat.reduceSub, Zj, Nat.zero_le, Zk, Zl, Zm, Zn, Zo, Zp, Zq, Zr, Zs, Zt, binA, eqA, kEq, nilEq, fillA, putL, allOne, Zu, Zv, AV.one, Zw, Zx, Zy, and_self, and_true, true_and, lenA, firstA, EndOk, resultA, oneOf, Zz, Ya, Yb, Yc, Yd, Ye, reduceCtorEq, Yf, Yg, natOf, upTo, bMax, bHigh, bLow, boundsA, evO, Yh, Yi, againOk, Vu, Vv, Vw, Yj, Yk, eq_self, Yl, Ym, Yn, setPs, or_true, true_or, false_or, or_false, ne_eq, Yo, Vx, Vy, Yp, Yq, i_law30_Built, c0_0, c0_1, c0_2, c0_3, c0_4, c0_5, c0_6, c0_7, c0_8, c0_9, c0_10, c0_11, c0_12, c0_13, c0_14, c0_15, c0_16, c0_17, c0_18, c0_19, c0_20, c0_21, c0_22, c0_23, c0_24, c0_25, c0_26, c0_27, c0_28, c0_29, c0_30, c0_32, c0_33, c0_34, c0_35, c0_36, c0_37, c0_38, c0_39, c0_40, c0_41, c0_42, c0_43, c0_44, c0_45, c0_46, c0_47, c0_48, c0_49, c0_50, c0_51, c0_52, c0_53, c0_55, c0_56, c0_57, c1, c2, e1, hg, hbe, d12, m12, z12, Nat.mul_one]
    refine bsw hS (by omega) hx8 ?_
    intro σ'' so' sn' sc' sz' cs'
    iterate 188 intro _
    intro hS' hsn'
    simp -implicitDefEqProofs (maxDischargeDepth := 15) only [↓reduceIte, Yr, Ys, Yt, Yu, Yv, Yw, Yx, Yy, Yz, Wa, Wb, Wc, Wd, We, Wf, Wg, Wh, Wi, Wj, Wk, Wl, Wm, Wn, Wo, Wp, Wq, Wr, Ws, Wt, Wu, opA, Wv, Ww, Wx, Wy, Wz, Va, Za, Zb, List.replicate, Zc, Zd, Ze, Vb, Vc, Vd, Ve, Vf, AV.cells, Vg, Vh, Vi, Vj, AState.set_next, AState.kill_next, Vk, Vl, Vm, Vn, Vo, Vp, Vq, Vr, Vs, Vt, partA, Zf, Zg, Zh, Zi, if_true, if_false, Nat.reduceAdd, Nat.reduceLeDiff, Nat.reduceSub, Zj, Nat.zero_le, Zk, Zl, Zm, Zn, Zo, Zp, Zq, Zr, Zs, Zt, binA, eqA, kEq, nilEq, fillA, putL, allOne, Zu, Zv, AV.one, Zw, Zx, Zy, and_self, and_true, true_and, lenA, firstA, EndOk, resultA, oneOf, Zz, Ya, Yb, Yc, Yd, Ye, reduceCtorEq, Yf, Yg, natOf, upTo, bMax, bHigh, bLow, boundsA, evO, Yh, Yi, againOk, Vu, Vv, Vw, Yj, Yk, eq_self, Yl, Ym, Yn, setPs, or_true, true_or, false_or, or_false, ne_eq, Yo, Vx, Vy, Yp, Yq, i_law30_Built, c0_0, c0_1, c0_2, c0_3, c0_4, c0_5, c0_6, c0_7, c0_8, c0_9, c0_10, c0_11, c0_12, c0_13, c0_14, c0_15, c0_16, c0_17, c0_18, c0_19, c0_20, c0_21, c0_22, c0_23, c0_24, c0_25, c0_26, c0_27, c0_28, c0_29, c0_30, c0_32, c0_33, c0_34, c0_35, c0_36, c0_37, c0_38, c0_39, c0_40, c0_41, c0_42, c0_43, c0_44, c0_45, c0_46, c0_47, c0_48, c0_49, c0_50, c0_51, c0_52, c0_53, c0_55, c0_56, c0_57]
    rw [wrap_i64 (n := (k : Int) + 1) (by omega)]
    refine ⟨m - 1, by omega, k + 1, so', sn', sc', sz', cs', ?_, by omega, by omega, by omega, rfl, rfl, rfl, rfl, rfl⟩
    rw [foldl_take bStep [] hxk]
    exact hS'
  · have hkk : l.take k = l.take 20 := by
      rcases Nat.lt_or_ge n 20 with q | q
      · rw [List.take_of_length_le (by omega), List.take_of_length_le (by omega)]
      · rw [show k = 20 by omega]
    rw [hkk] at hS hsn
    have hq : built l = (match (l.take 20).foldl bStep [] with | [] => F.mk 2 [] [] [] | f :: r => untils f r) := rfl
    rw [hq]
    rcases Nat.lt_or_ge k n with q | q
    · have c1 : decide ((k : Int) < (n : Int)) = true := decide_eq_true (by omega)
      have c2 : decide ((k : Int) < 20) = false := decide_eq_false (by omega)
      simp -implicitDefEqProofs (maxDischargeDepth := 15) only [↓reduceIte, Yr, Ys, Yt, Yu, Yv, Yw, Yx, Yy, Yz, Wa, Wb, Wc, Wd, We, Wf, Wg, Wh, Wi, Wj, Wk, Wl, Wm, Wn, Wo, Wp, Wq, Wr, Ws, Wt, Wu, opA, Wv, Ww, Wx, Wy, Wz, Va, Za, Zb, List.replicate, Zc, Zd, Ze, Vb, Vc, Vd, Ve, Vf, AV.cells, Vg, Vh, Vi, Vj, AState.set_next, AState.kill_next, Vk, Vl, Vm, Vn, Vo, Vp, Vq, Vr, Vs, Vt, partA, Zf, Zg, Zh, Zi, if_true, if_false, Nat.reduceAdd, Nat.reduceLeDiff, Nat.reduceSub, Zj, Nat.zero_le, Zk, Zl, Zm, Zn, Zo, Zp, Zq, Zr, Zs, Zt, binA, eqA, kEq, nilEq, fillA, putL, allOne, Zu, Zv, AV.one, Zw, Zx, Zy, and_self, and_true, true_and, lenA, firstA, EndOk, resultA, oneOf, Zz, Ya, Yb, Yc, Yd, Ye, reduceCtorEq, Yf, Yg, natOf, upTo, bMax, bHigh, bLow, boundsA, evO, Yh, Yi, againOk, Vu, Vv, Vw, Yj, Yk, eq_self, Yl, Ym, Yn, setPs, or_true, true_or, false_or, or_false, ne_eq, Yo, Vx, Vy, Yp, Yq, i_law30_Built, c0_0, c0_1, c0_2, c0_3, c0_4, c0_5, c0_6, c0_7, c0_8, c0_9, c0_10, c0_11, c0_12, c0_13, c0_14, c0_15, c0_16, c0_17, c0_18, c0_19, c0_20, c0_21, c0_22, c0_23, c0_24, c0_25, c0_26, c0_27, c0_28, c0_29, c0_30, c0_32, c0_33, c0_34, c0_35, c0_36, c0_37, c0_38, c0_39, c0_40, c0_41, c0_42, c0_43, c0_44, c0_45, c0_46, c0_47, c0_48, c0_49, c0_50, c0_51, c0_52, c0_53, c0_55, c0_56, c0_57, c1, c2]
      exact built_tail ⟨rfl, rfl, rfl, rfl, rfl⟩ hW hS (by omega)
    · have c1 : decide ((k : Int) < (n : Int)) = false := decide_eq_false (by omega)
      simp -implicitDefEqProofs (maxDischargeDepth := 15) only [↓reduceIte, Yr, Ys, Yt, Yu, Yv, Yw, Yx, Yy, Yz, Wa, Wb, Wc, Wd, We, Wf, Wg, Wh, Wi, Wj, Wk, Wl, Wm, Wn, Wo, Wp, Wq, Wr, Ws, Wt, Wu, opA, Wv, Ww, Wx, Wy, Wz, Va, Za, Zb, List.replicate, Zc, Zd, Ze, Vb, Vc, Vd, Ve, Vf, AV.cells, Vg, Vh, Vi, Vj, AState.set_next, AState.kill_next, Vk, Vl, Vm, Vn, Vo, Vp, Vq, Vr, Vs, Vt, partA, Zf, Zg, Zh, Zi, if_true, if_false, Nat.reduceAdd, Nat.reduceLeDiff, Nat.reduceSub, Zj, Nat.zero_le, Zk, Zl, Zm, Zn, Zo, Zp, Zq, Zr, Zs, Zt, binA, eqA, kEq, nilEq, fillA, putL, allOne, Zu, Zv, AV.one, Zw, Zx, Zy, and_self, and_true, true_and, lenA, firstA, EndOk, resultA, oneOf, Zz, Ya, Yb, Yc, Yd, Ye, reduceCtorEq, Yf, Yg, natOf, upTo, bMax, bHigh, bLow, boundsA, evO, Yh, Yi, againOk, Vu, Vv, Vw, Yj, Yk, eq_self, Yl, Ym, Yn, setPs, or_true, true_or, false_or, or_false, ne_eq, Yo, Vx, Vy, Yp, Yq, i_law30_Built, c0_0, c0_1, c0_2, c0_3, c0_4, c0_5, c0_6, c0_7, c0_8, c0_9, c0_10, c0_11, c0_12, c0_13, c0_14, c0_15, c0_16, c0_17, c0_18, c0_19, c0_20, c0_21, c0_22, c0_23, c0_24, c0_25, c0_26, c0_27, c0_28, c0_29, c0_30, c0_32, c0_33, c0_34, c0_35, c0_36, c0_37, c0_38, c0_39, c0_40, c0_41, c0_42, c0_43, c0_44, c0_45, c0_46, c0_47, c0_48, c0_49, c0_50, c0_51, c0_52, c0_53, c0_55, c0_56, c0_57, c1]
      exact built_tail ⟨rfl, rfl, rfl, rfl, rfl⟩ hW hS (by omega)
end Go.Am
namespace Go.Am
open Go.RowKit Go.Proofs Do
set_option maxRecDepth 100000
theorem isPrefixOf_take : ∀ (b a : Str), b.isPrefixOf a = (decide (b.length ≤ a.length) && (a.take b.length == b))
  | [], a => by simp
  | c :: b, [] => by simp
  | c :: b, d :: a => by
    rw [List.isPrefixOf_cons_cons, isPrefixOf_take b a]
    by_cases h : c = d
    · subst h; simp
    · have h' : ¬ d = c := fun q => h q.symm
      have h1 : (c == d) = false := by simpa using h
      simp [h1, h']
theorem hasPrefix_ok (s p : Str) (σ : AState) : RunF RR Tryz.prog n_strings_HasPrefix [.str s, .str p] σ (fun u σ' => u = .bool (p.isPrefixOf s) ∧ σ' = σ) := by
  refine runF_intro hmx rf_strings_HasPrefix ?_
  simp -implicitDefEqProofs (maxDischargeDepth := 15) only [↓reduceIte, Yr, Ys, Yt, Yu, Yv, Yw, Yx, Yy, Yz, Wa, Wb, Wc, Wd, We, Wf, Wg, Wh, Wi, Wj, Wk, Wl, Wm, Wn, Wo, Wp, Wq, Wr, Ws, Wt, Wu, opA, Wv, Ww, Wx, Wy, Wz, Va, Za, Zb, List.replicate, Zc, Zd, Ze, Vb, Vc, Vd, Ve, Vf, AV.cells, Vg, Vh, Vi, Vj, AState.set_next, AState.kill_next, Vk, Vl, Vm, Vn, Vo, Vp, Vq, Vr, Vs, Vt, partA, Zf, Zg, Zh, Zi, if_true, if_false, Nat.reduceAdd, Nat.reduceLeDiff, Nat.reduceSub, Zj, Nat.zero_le, Zk, Zl, Zm, Zn, Zo, Zp, Zq, Zr, Zs, Zt, binA, eqA, kEq, nilEq, fillA, putL, allOne, Zu, Zv, AV.one, Zw, Zx, Zy, and_self, and_true, true_and, lenA, firstA, EndOk, resultA, oneOf, Zz, Ya, Yb, Yc, Yd, Ye, reduceCtorEq, Yf, Yg, natOf, upTo, bMax, bHigh, bLow, boundsA, evO, Yh, Yi, againOk, Vu, Vv, Vw, Yj, Yk, eq_self, Yl, Ym, Yn, setPs, or_true, true_or, false_or, or_false, ne_eq, Yo, Vx, Vy, Yp, Yq, i_strings_HasPrefix, c61_0, c61_1, c61_2]
  have key : RunF RR Tryz.prog n_stringslite_HasPrefix [.str s, .str p] σ (fun u σ' => u = .bool (p.isPrefixOf s) ∧ σ' = σ) := by
    refine runF_intro hmx rf_stringslite_HasPrefix ?_
    rw [isPrefixOf_take]
    by_cases h : p.length ≤ s.length
    · have c1 : decide ((s.length : Int) ≥ (p.length : Int)) = true := decide_eq_true (by omega)
      have c2 : decide (p.length ≤ s.length) = true := decide_eq_true h
      simp -implicitDefEqProofs (maxDischargeDepth := 15) only [↓reduceIte, Yr, Ys, Yt, Yu, Yv, Yw, Yx, Yy, Yz, Wa, Wb, Wc, Wd, We, Wf, Wg, Wh, Wi, Wj, Wk, Wl, Wm, Wn, Wo, Wp, Wq, Wr, Ws, Wt, Wu, opA, Wv, Ww, Wx, Wy, Wz, Va, Za, Zb, List.replicate, Zc, Zd, Ze, Vb, Vc, Vd, Ve, Vf, AV.cells, Vg, Vh, Vi, Vj, AState.set_next, AState.kill_next, Vk, Vl, Vm, Vn, Vo, Vp, Vq, Vr, Vs, Vt, partA, Zf, Zg, Zh, Zi, if_true, if_false, Nat.reduceAdd, Nat.reduceLeDiff, Nat.reduceSub, Zj, Nat.zero_le, Zk, Zl, Zm, Zn, Zo, Zp, Zq, Zr, Zs, Zt, binA, eqA, kEq, nilEq, fillA, putL, allOne, Zu, Zv, AV.one, Zw, Zx, Zy, and_self, and_true, true_and, lenA, firstA, EndOk, resultA, oneOf, Zz, Ya, Yb, Yc, Yd, Ye, reduceCtorEq, Yf, Yg, natOf, upTo, bMax, bHigh, bLow, boundsA, evO, Yh, Yi, againOk, Vu, Vv, Vw, Yj, Yk, eq_self, Yl, Ym, Yn, setPs, or_true, true_or, false_or, or_false, ne_eq, Yo, Vx, Vy, Yp, Yq, i_stringslite_HasPrefix, c7_0, c7_1, c1, c2, h, natOf_cast, Nat.sub_zero]
    · have c1 : decide ((s.length : Int) ≥ (p.length : Int)) = false := decide_eq_false (by omega)
      have c2 : decide (p.length ≤ s.length) = false := decide_eq_false h
      simp -implicitDefEqProofs (maxDischargeDepth := 15) only [↓reduceIte, Yr, Ys, Yt, Yu, Yv, Yw, Yx, Yy, Yz, Wa, Wb, Wc, Wd, We, Wf, Wg, Wh, Wi, Wj, Wk, Wl, Wm, Wn, Wo, Wp, Wq, Wr, Ws, Wt, Wu, opA, Wv, Ww, Wx, Wy, Wz, Va, Za, Zb, List.replicate, Zc, Zd, Ze, Vb, Vc, Vd, Ve, Vf, AV.cells, Vg, Vh, Vi, Vj, AState.set_next, AState.kill_next, Vk, Vl, Vm, Vn, Vo, Vp, Vq, Vr, Vs, Vt, partA, Zf, Zg, Zh, Zi, if_true, if_false, Nat.reduceAdd, Nat.reduceLeDiff, Nat.reduceSub, Zj, Nat.zero_le, Zk, Zl, Zm, Zn, Zo, Zp, Zq, Zr, Zs, Zt, binA, eqA, kEq, nilEq, fillA, putL, allOne, Zu, Zv, AV.one, Zw, Zx, Zy, and_self, and_true, true_and, lenA, firstA, EndOk, resultA, oneOf, Zz, Ya, Yb, Yc, Yd, Ye, reduceCtorEq, Yf, Yg, natOf, upTo, bMax, bHigh, bLow, boundsA, evO, Yh, Yi, againOk, Vu, Vv, Vw, Yj, Yk, eq_self, Yl, Ym, Yn, setPs, or_true, true_or, false_or, or_false, ne_eq, Yo, Vx, Vy, Yp, Yq, i_stringslite_HasPrefix, c7_0, c7_1, c1, c2, Bool.false_and]
  refine RunV.to key ?_
  simp -implicitDefEqProofs (maxDischargeDepth := 15) only [↓reduceIte, Yr, Ys, Yt, Yu, Yv, Yw, Yx, Yy, Yz, Wa, Wb, Wc, Wd, We, Wf, Wg, Wh, Wi, Wj, Wk, Wl, Wm, Wn, Wo, Wp, Wq, Wr, Ws, Wt, Wu, opA, Wv, Ww, Wx, Wy, Wz, Va, Za, Zb, List.replicate, Zc, Zd, Ze, Vb, Vc, Vd, Ve, Vf, AV.cells, Vg, Vh, Vi, Vj, AState.set_next, AState.kill_next, Vk, Vl, Vm, Vn, Vo, Vp, Vq, Vr, Vs, Vt, partA, Zf, Zg, Zh, Zi, if_true, if_false, Nat.reduceAdd, Nat.reduceLeDiff, Nat.reduceSub, Zj, Nat.zero_le, Zk, Zl, Zm, Zn, Zo, Zp, Zq, Zr, Zs, Zt, binA, eqA, kEq, nilEq, fillA, putL, allOne, Zu, Zv, AV.one, Zw, Zx, Zy, and_self, and_true, true_and, lenA, firstA, EndOk, resultA, oneOf, Zz, Ya, Yb, Yc, Yd, Ye, reduceCtorEq, Yf, Yg, natOf, upTo, bMax, bHigh, bLow, boundsA, evO, Yh, Yi, againOk, Vu, Vv, Vw, Yj, Yk, eq_self, Yl, Ym, Yn, setPs, or_true, true_or, false_or, or_false, ne_eq, Yo, Vx, Vy, Yp, Yq, i_strings_HasPrefix, c61_0, c61_1, c61_2]
abbrev countA (ip il : Nat) : AV := .func (.func n_law41_DescribeOutlineS1) [] [.ptr (some (ip, 0)), .ptr (some (il, 0))]
structure CSt (ip il : Nat) (σ : AState) (p : Nat) : Prop where
  cell : σ.get ip = some (.cells [.int .i64 p] true)
  look : σ.get il = some (.cells [countA ip il] true)
theorem szs_take {l : List F} {k : Nat} {t : F} (h : l[k]? = some t) : F.szs (l.take (k + 1)) = F.szs (l.take k) + t.sz := by
  induction l generalizing k with
  | nil => simp at h
  | cons a r ih =>
    cases k with
    | zero => simp only [List.getElem?_cons_zero, Option.some.injEq] at h; subst h; simp [F.szs]
    | succ k => simp only [List.getElem?_cons_succ] at h; simp only [List.take_succ_cons, F.szs, ih h]; omega
mutual
theorem sz_nodes : ∀ f : F, f.sz ≤ f.nodes
  | .mk _ _ ar l => by have := szs_nodess l; simp only [F.sz, F.nodes]; omega
theorem szs_nodess : ∀ l : List F, F.szs l ≤ F.nodess l
  | [] => by simp [F.szs]
  | f :: r => by have := sz_nodes f; have := szs_nodess r; simp only [F.szs, F.nodess]; omega
end
mutual
theorem outl_sz : ∀ (f : F) (n : Nat), (f.outl n).length = f.sz
  | .mk _ _ _ l, n => by have := outls_sz l (n + 1); simp only [F.outl, F.sz, List.length_cons]; omega
theorem outls_sz : ∀ (l : List F) (n : Nat), (F.outls n l).length = F.szs l
  | [], n => rfl
  | f :: r, n => by have := outl_sz f n; have := outls_sz r n; simp only [F.outls, F.szs, List.length_append]; omega
end
theorem countS1_ok {ip il : Nat} (hne : ip ≠ il) : ∀ (m : Nat) (f : F), f.nodes ≤ m → m ≤ 1048576 → ∀ (σ : AState) (p : Nat) (g : Mem) (xs : List AV), CSt ip il σ p → Sub g σ.get → g ip = none → DAtL g f.dv xs → p + f.nodes ≤ 1099511627776 →
    RunV RR Tryz.prog (countA ip il) [.agg xs] σ (fun u σ' => CSt ip il σ' (p + f.sz) ∧ Kept (fun i => i = ip) σ σ') := by
  intro m
  induction m using Nat.strongRecOn with
  | _ m ih =>
  intro f hf hm σ p g xs hC hg0 hgi hD hp
  refine RunV.wf fun hW => ?_
  refine runF_intro hmx rf_law41_DescribeOutlineS1 ?_
  obtain ⟨op, nm, ar, l⟩ := f
  obtain ⟨o1, c1, z1, o2, c2, z2, rfl, hA, hL⟩ := F.cells hD
  simp only [F.nodes] at hf hp
  have hlen := nodess_len l
  have hil0 := hW.lt hC.look
  have hip0 := hW.lt hC.cell
  have hci := hC.cell
  have w1 : wrapF .i64 ((p : Int) + 1) = (p : Int) + 1 := wrap_i64 (by omega)
  have hbn : σ.next ≠ ip := by omega
  simp -implicitDefEqProofs (maxDischargeDepth := 15) only [↓reduceIte, Yr, Ys, Yt, Yu, Yv, Yw, Yx, Yy, Yz, Wa, Wb, Wc, Wd, We, Wf, Wg, Wh, Wi, Wj, Wk, Wl, Wm, Wn, Wo, Wp, Wq, Wr, Ws, Wt, Wu, opA, Wv, Ww, Wx, Wy, Wz, Va, Za, Zb, List.replicate, Zc, Zd, Ze, Vb, Vc, Vd, Ve, Vf, AV.cells, Vg, Vh, Vi, Vj, AState.set_next, AState.kill_next, Vk, Vl, Vm, Vn, Vo, Vp, Vq, Vr, Vs, Vt, partA, Zf, Zg, Zh, Zi, if_true, if_false, Nat.reduceAdd, Nat.reduceLeDiff, Nat.reduceSub, Zj, Nat.zero_le, Zk, Zl, Zm, Zn, Zo, Zp, Zq, Zr, Zs, Zt, binA, eqA, kEq, nilEq, fillA, putL, allOne, Zu, Zv, AV.one, Zw, Zx, Zy, and_self, and_true, true_and, lenA, firstA, EndOk, resultA, oneOf, Zz, Ya, Yb, Yc, Yd, Ye, reduceCtorEq, Yf, Yg, natOf, upTo, bMax, bHigh, bLow, boundsA, evO, Yh, Yi, againOk, Vu, Vv, Vw, Yj, Yk, eq_self, Yl, Ym, Yn, setPs, or_true, true_or, false_or, or_false, ne_eq, Yo, Vx, Vy, Yp, Yq, i_law41_DescribeOutlineS1, c53_0, c53_1, c53_2, c53_3, c53_4, c53_5, c53_6, c53_7, c53_8, c53_9, c53_10, hci, hip0, w1, hbn]
  have hne' : il ≠ ip := Ne.symm hne
  have hK1 : Kept (fun i => i = ip) σ ((σ.push (.cells [.int .u8 op, .str nm, .slice o1 ar.length c1 z1, .slice o2 l.length c2 z2] true)).set ip (.cells [.int .i64 ((p : Int) + 1)] true)) :=
    ⟨Nat.le_succ _, fun i b hi e => by rw [Vl hi]; exact sub_push hW _ i b e, (hW.push _).set (by simp only [AState.push_next]; omega) _⟩
  have hC1 : CSt ip il ((σ.push (.cells [.int .u8 op, .str nm, .slice o1 ar.length c1 z1, .slice o2 l.length c2 z2] true)).set ip (.cells [.int .i64 ((p : Int) + 1)] true)) (p + 1 + F.szs (l.take 0)) :=
    ⟨by rw [Vk]; rfl, by rw [Vl hne']; exact sub_push hW _ _ _ hC.look⟩
  refine wp_loop (fun ts σ' m => ∃ k : Nat, CSt ip il σ' (p + 1 + F.szs (l.take k)) ∧ Kept (fun i => i = ip) σ σ' ∧ k + m = l.length ∧ ∃ j0 j1 j3 j4 j5 j6 j7 j8 j12 j13 j14 j15 j16 j17 j18 : AV, ts = [j0, j1, .ptr (some (il, 0)), j3, j4, j5, j6, j7, j8, .slice o2 l.length c2 z2, .int .i64 l.length, .int .i64 k, j12, j13, j14, j15, j16, j17, j18]) l.length ⟨0, hC1, hK1, by omega, _, _, _, _, _, _, _, _, _, _, _, _, _, _, _, rfl⟩ ?_
  rintro m' ts σ' ⟨k, hCk, hK, hk, j0, j1, j3, j4, j5, j6, j7, j8, j12, j13, j14, j15, j16, j17, j18, rfl⟩
  have hfree : Free (fun i => i = ip) g := fun i b e q => by rw [q, hgi] at e; cases e
  have hgk : Sub g σ'.get := hK.sub hfree hg0
  by_cases hlt : k < l.length
  · obtain ⟨t, ht, htm⟩ := get_lt (l := l) (k := k) hlt
    obtain ⟨rfl, i, off, cs, w, rfl, hg, hlen3, xs, hxs, hd2⟩ := hL.elem ht
    have hgi' := hgk _ _ hg
    have hnt := nodes_mem htm
    have hsz : F.szs (l.take (k + 1)) ≤ F.nodess l := by
      have h1 := szs_split l (k + 1)
      have h2 := szs_nodess l
      omega
    rw [szs_take ht] at hsz
    have hst := szs_take ht
    obtain ⟨op', nm', ar', l'⟩ := t
    have hd3 := hd2
    obtain ⟨o1', c1', z1', o2', c2', z2', rfl, _, _⟩ := F.cells hd2
    have hi := hK.wf.lt hgi'
    have hd : decide ((k : Int) < l.length) = true := decide_eq_true (by omega)
    have e1 : (0 : Int) ≤ (k : Int) ∧ (k : Int) < (l.length : Int) := by omega
    have hilk := hCk.look
    have hill := hK.wf.lt hilk
    have hpn : p + 1 + F.szs (l.take k) + (F.mk op' nm' ar' l').nodes ≤ 1099511627776 := by
      have : F.szs (l.take k) + (F.mk op' nm' ar' l').nodes ≤ F.nodess l := by
        have key : ∀ (l : List F) (k : Nat) (t : F), l[k]? = some t → F.szs (l.take k) + t.nodes ≤ F.nodess l := by
          intro l
          induction l with
          | nil => intro k t h; simp at h
          | cons a r ih => intro k t h; cases k with
            | zero => simp only [List.getElem?_cons_zero, Option.some.injEq] at h; subst h; simp [F.szs, F.nodess]
            | succ k =>
              simp only [List.getElem?_cons_succ] at h
              have := ih k t h
              have := sz_nodes a
              simp only [List.take_succ_cons, F.szs, F.nodess]; omega
        exact key l k _ ht
      omega
    simp -implicitDefEqProofs (maxDischargeDepth := 15) only [↓reduceIte, Yr, Ys, Yt, Yu, Yv, Yw, Yx, Yy, Yz, Wa, Wb, Wc, Wd, We, Wf, Wg, Wh, Wi, Wj, Wk, Wl, Wm, Wn, Wo, Wp, Wq, Wr, Ws, Wt, Wu, opA, Wv, Ww, Wx, Wy, Wz, Va, Za, Zb, List.replicate, Zc, Zd, Ze, Vb, Vc, Vd, Ve, Vf, AV.cells, Vg, Vh, Vi, Vj, AState.set_next, AState.kill_next, Vk, Vl, Vm, Vn, Vo, Vp, Vq, Vr, Vs, Vt, partA, Zf, Zg, Zh, Zi, if_true, if_false, Nat.reduceAdd, Nat.reduceLeDiff, Nat.reduceSub, Zj, Nat.zero_le, Zk, Zl, Zm, Zn, Zo, Zp, Zq, Zr, Zs, Zt, binA, eqA, kEq, nilEq, fillA, putL, allOne, Zu, Zv, AV.one, Zw, Zx, Zy, and_self, and_true, true_and, lenA, firstA, EndOk, resultA, oneOf, Zz, Ya, Yb, Yc, Yd, Ye, reduceCtorEq, Yf, Yg, natOf, upTo, bMax, bHigh, bLow, boundsA, evO, Yh, Yi, againOk, Vu, Vv, Vw, Yj, Yk, eq_self, Yl, Ym, Yn, setPs, or_true, true_or, false_or, or_false, ne_eq, Yo, Vx, Vy, Yp, Yq, i_law41_DescribeOutlineS1, c53_0, c53_1, c53_2, c53_3, c53_4, c53_5, c53_6, c53_7, c53_8, c53_9, c53_10, hd, e1, hgi', hlen3, hxs, hi, hilk, hill]
    refine (ih _ (by omega) _ (Nat.le_refl _) (by omega) _ _ g _ ⟨sub_push hK.wf _ _ _ hCk.cell, sub_push hK.wf _ _ _ hCk.look⟩ (hgk.trans (sub_push hK.wf _)) hgi hd3 hpn).mono ?_
    rintro u σ5 ⟨hC5, hK5⟩
    simp -implicitDefEqProofs (maxDischargeDepth := 15) only [↓reduceIte, Yr, Ys, Yt, Yu, Yv, Yw, Yx, Yy, Yz, Wa, Wb, Wc, Wd, We, Wf, Wg, Wh, Wi, Wj, Wk, Wl, Wm, Wn, Wo, Wp, Wq, Wr, Ws, Wt, Wu, opA, Wv, Ww, Wx, Wy, Wz, Va, Za, Zb, List.replicate, Zc, Zd, Ze, Vb, Vc, Vd, Ve, Vf, AV.cells, Vg, Vh, Vi, Vj, AState.set_next, AState.kill_next, Vk, Vl, Vm, Vn, Vo, Vp, Vq, Vr, Vs, Vt, partA, Zf, Zg, Zh, Zi, if_true, if_false, Nat.reduceAdd, Nat.reduceLeDiff, Nat.reduceSub, Zj, Nat.zero_le, Zk, Zl, Zm, Zn, Zo, Zp, Zq, Zr, Zs, Zt, binA, eqA, kEq, nilEq, fillA, putL, allOne, Zu, Zv, AV.one, Zw, Zx, Zy, and_self, and_true, true_and, lenA, firstA, EndOk, resultA, oneOf, Zz, Ya, Yb, Yc, Yd, Ye, reduceCtorEq, Yf, Yg, natOf, upTo, bMax, bHigh, bLow, boundsA, evO, Yh, Yi, againOk, Vu, Vv, Vw, Yj, Yk, eq_self, Yl, Ym, Yn, setPs, or_true, true_or, false_or, or_false, ne_eq, Yo, Vx, Vy, Yp, Yq, i_law41_DescribeOutlineS1, c53_0, c53_1, c53_2, c53_3, c53_4, c53_5, c53_6, c53_7, c53_8, c53_9, c53_10]
    rw [wrap_i64 (n := (k : Int) + 1) (by omega)]
    refine ⟨m' - 1, by omega, k + 1, ?_, (hK.push _).trans hK5, by omega, _, _, _, _, _, _, _, _, _, _, _, _, _, _, _, rfl⟩
    rw [hst, ← Nat.add_assoc]
    exact hC5
  · have hd : decide ((k : Int) < l.length) = false := decide_eq_false (by omega)
    simp -implicitDefEqProofs (maxDischargeDepth := 15) only [↓reduceIte, Yr, Ys, Yt, Yu, Yv, Yw, Yx, Yy, Yz, Wa, Wb, Wc, Wd, We, Wf, Wg, Wh, Wi, Wj, Wk, Wl, Wm, Wn, Wo, Wp, Wq, Wr, Ws, Wt, Wu, opA, Wv, Ww, Wx, Wy, Wz, Va, Za, Zb, List.replicate, Zc, Zd, Ze, Vb, Vc, Vd, Ve, Vf, AV.cells, Vg, Vh, Vi, Vj, AState.set_next, AState.kill_next, Vk, Vl, Vm, Vn, Vo, Vp, Vq, Vr, Vs, Vt, partA, Zf, Zg, Zh, Zi, if_true, if_false, Nat.reduceAdd, Nat.reduceLeDiff, Nat.reduceSub, Zj, Nat.zero_le, Zk, Zl, Zm, Zn, Zo, Zp, Zq, Zr, Zs, Zt, binA, eqA, kEq, nilEq, fillA, putL, allOne, Zu, Zv, AV.one, Zw, Zx, Zy, and_self, and_true, true_and, lenA, firstA, EndOk, resultA, oneOf, Zz, Ya, Yb, Yc, Yd, Ye, reduceCtorEq, Yf, Yg, natOf, upTo, bMax, bHigh, bLow, boundsA, evO, Yh, Yi, againOk, Vu, Vv, Vw, Yj, Yk, eq_self, Yl, Ym, Yn, setPs, or_true, true_or, false_or, or_false, ne_eq, Yo, Vx, Vy, Yp, Yq, i_law41_DescribeOutlineS1, c53_0, c53_1, c53_2, c53_3, c53_4, c53_5, c53_6, c53_7, c53_8, c53_9, c53_10, hd]
    have : l.take k = l := List.take_of_length_le (by omega)
    rw [this] at hCk
    have e : p + (F.mk op nm ar l).sz = p + 1 + F.szs l := by simp only [F.sz]; omega
    rw [e]
    exact ⟨hCk, hK⟩
end Go.Am
namespace Go.Am
open Go.RowKit Go.Proofs Do
set_option maxRecDepth 100000
theorem count_nice {w : Str} (h : (32 : UInt8) ∉ w) : w.count 32 = 0 := List.count_eq_zero.2 h
theorem count_jn : ∀ {ws : List Str}, ws ≠ [] → Nices ws → (jn ws sp).count 32 = ws.length - 1
  | [], h, _ => absurd rfl h
  | [x], _, hn => by rw [jn_one]; exact count_nice (hn x (by simp)).2
  | x :: y :: r, _, hn => by
    rw [jn_cons2, List.count_append, List.count_append, count_nice (hn x (by simp)).2, count_jn (ws := y :: r) (by simp) (fun w hw => hn w (List.mem_cons_of_mem _ hw))]
    simp; omega
theorem index_nice {w r : Str} (h : (32 : UInt8) ∉ w) : Lib.indexByte (w ++ 32 :: r) 32 = w.length := by
  induction w with
  | nil => rfl
  | cons a w ih =>
    simp only [List.mem_cons, not_or] at h
    have h1 : (a == 32) = false := by simp only [beq_eq_false_iff_ne]; exact fun q => h.1 q.symm
    have h2 := ih h.2
    simp only [List.cons_append, Lib.indexByte, h1, h2]
    have h3 : ((w.length : Int) == -1) = false := by simp only [beq_eq_false_iff_ne]; omega
    rw [h3]
    simp
theorem u32 : ((32 : UInt8).toNat : Int) = 32 := rfl
theorem index_ok (s : Str) (σ : AState) : RunF RR Tryz.prog n_strings_Index [.str s, .str sp] σ (fun u σ' => u = .int .i64 (Lib.indexByte s 32) ∧ σ' = σ) := by
  refine runF_intro hmx rf_strings_Index ?_
  simp -implicitDefEqProofs (maxDischargeDepth := 15) only [↓reduceIte, Yr, Ys, Yt, Yu, Yv, Yw, Yx, Yy, Yz, Wa, Wb, Wc, Wd, We, Wf, Wg, Wh, Wi, Wj, Wk, Wl, Wm, Wn, Wo, Wp, Wq, Wr, Ws, Wt, Wu, opA, Wv, Ww, Wx, Wy, Wz, Va, Za, Zb, List.replicate, Zc, Zd, Ze, Vb, Vc, Vd, Ve, Vf, AV.cells, Vg, Vh, Vi, Vj, AState.set_next, AState.kill_next, Vk, Vl, Vm, Vn, Vo, Vp, Vq, Vr, Vs, Vt, partA, Zf, Zg, Zh, Zi, if_true, if_false, Nat.reduceAdd, Nat.reduceLeDiff, Nat.reduceSub, Zj, Nat.zero_le, Zk, Zl, Zm, Zn, Zo, Zp, Zq, Zr, Zs, Zt, binA, eqA, kEq, nilEq, fillA, putL, allOne, Zu, Zv, AV.one, Zw, Zx, Zy, and_self, and_true, true_and, lenA, firstA, EndOk, resultA, oneOf, Zz, Ya, Yb, Yc, Yd, Ye, reduceCtorEq, Yf, Yg, natOf, upTo, bMax, bHigh, bLow, boundsA, evO, Yh, Yi, againOk, Vu, Vv, Vw, Yj, Yk, eq_self, Yl, Ym, Yn, setPs, or_true, true_or, false_or, or_false, ne_eq, Yo, Vx, Vy, Yp, Yq, i_strings_Index, c26_0, c26_1, c26_2]
  have key : RunF RR Tryz.prog n_stringslite_Index [.str s, .str sp] σ (fun u σ' => u = .int .i64 (Lib.indexByte s 32) ∧ σ' = σ) := by
    refine runF_intro hmx rf_stringslite_Index ?_
    have c1 : (((1 : Nat) : Int) == 0) = false := rfl
    have c2 : (((1 : Nat) : Int) == 1) = true := rfl
    cases hs : (sp == s)
    · simp -implicitDefEqProofs (maxDischargeDepth := 15) only [↓reduceIte, Yr, Ys, Yt, Yu, Yv, Yw, Yx, Yy, Yz, Wa, Wb, Wc, Wd, We, Wf, Wg, Wh, Wi, Wj, Wk, Wl, Wm, Wn, Wo, Wp, Wq, Wr, Ws, Wt, Wu, opA, Wv, Ww, Wx, Wy, Wz, Va, Za, Zb, List.replicate, Zc, Zd, Ze, Vb, Vc, Vd, Ve, Vf, AV.cells, Vg, Vh, Vi, Vj, AState.set_next, AState.kill_next, Vk, Vl, Vm, Vn, Vo, Vp, Vq, Vr, Vs, Vt, partA, Zf, Zg, Zh, Zi, if_true, if_false, Nat.reduceAdd, Nat.reduceLeDiff, Nat.reduceSub, Zj, Nat.zero_le, Zk, Zl, Zm, Zn, Zo, Zp, Zq, Zr, Zs, Zt, binA, eqA, kEq, nilEq, fillA, putL, allOne, Zu, Zv, AV.one, Zw, Zx, Zy, and_self, and_true, true_and, lenA, firstA, EndOk, resultA, oneOf, Zz, Ya, Yb, Yc, Yd, Ye, reduceCtorEq, Yf, Yg, natOf, upTo, bMax, bHigh, bLow, boundsA, evO, Yh, Yi, againOk, Vu, Vv, Vw, Yj, Yk, eq_self, Yl, Ym, Yn, setPs, or_true, true_or, false_or, or_false, ne_eq, Yo, Vx, Vy, Yp, Yq, i_stringslite_Index, c47_0, c47_1, c47_2, c47_3, c47_4, c47_5, c47_6, c47_7, c47_8, c47_9, c47_10, c47_11, c47_12, c47_13, c47_14, c47_15, c47_16, c47_17, c47_18, c47_19, c47_20, c47_21, c47_22, c47_23, c47_24, c47_25, c47_26, c47_27, c47_28, c47_29, c47_30, c47_31, c47_32, c47_33, c47_34, c47_35, c47_36, c47_37, c47_38, c47_39, c47_40, c47_41, c47_42, c47_43, c47_44, c47_45, c47_46, c47_47, c47_48, c47_49, c47_50, c47_51, c47_52, c47_53, c47_54, c47_55, c47_56, c47_57, c1, c2, hs, u32]
      have k2 : RunF RR Tryz.prog n_stringslite_IndexByte [.str s, .int .u8 32] σ (fun u σ' => u = .int .i64 (Lib.indexByte s 32) ∧ σ' = σ) := by
        refine runF_intro hmx rf_stringslite_IndexByte ?_
        simp -implicitDefEqProofs (maxDischargeDepth := 15) only [↓reduceIte, Yr, Ys, Yt, Yu, Yv, Yw, Yx, Yy, Yz, Wa, Wb, Wc, Wd, We, Wf, Wg, Wh, Wi, Wj, Wk, Wl, Wm, Wn, Wo, Wp, Wq, Wr, Ws, Wt, Wu, opA, Wv, Ww, Wx, Wy, Wz, Va, Za, Zb, List.replicate, Zc, Zd, Ze, Vb, Vc, Vd, Ve, Vf, AV.cells, Vg, Vh, Vi, Vj, AState.set_next, AState.kill_next, Vk, Vl, Vm, Vn, Vo, Vp, Vq, Vr, Vs, Vt, partA, Zf, Zg, Zh, Zi, if_true, if_false, Nat.reduceAdd, Nat.reduceLeDiff, Nat.reduceSub, Zj, Nat.zero_le, Zk, Zl, Zm, Zn, Zo, Zp, Zq, Zr, Zs, Zt, binA, eqA, kEq, nilEq, fillA, putL, allOne, Zu, Zv, AV.one, Zw, Zx, Zy, and_self, and_true, true_and, lenA, firstA, EndOk, resultA, oneOf, Zz, Ya, Yb, Yc, Yd, Ye, reduceCtorEq, Yf, Yg, natOf, upTo, bMax, bHigh, bLow, boundsA, evO, Yh, Yi, againOk, Vu, Vv, Vw, Yj, Yk, eq_self, Yl, Ym, Yn, setPs, or_true, true_or, false_or, or_false, ne_eq, Yo, Vx, Vy, Yp, Yq, i_stringslite_IndexByte, c39_0, c39_1, c39_2]
        refine RunV.to (prim_index Tryz.indexOk) ?_
        simp -implicitDefEqProofs (maxDischargeDepth := 15) only [↓reduceIte, Yr, Ys, Yt, Yu, Yv, Yw, Yx, Yy, Yz, Wa, Wb, Wc, Wd, We, Wf, Wg, Wh, Wi, Wj, Wk, Wl, Wm, Wn, Wo, Wp, Wq, Wr, Ws, Wt, Wu, opA, Wv, Ww, Wx, Wy, Wz, Va, Za, Zb, List.replicate, Zc, Zd, Ze, Vb, Vc, Vd, Ve, Vf, AV.cells, Vg, Vh, Vi, Vj, AState.set_next, AState.kill_next, Vk, Vl, Vm, Vn, Vo, Vp, Vq, Vr, Vs, Vt, partA, Zf, Zg, Zh, Zi, if_true, if_false, Nat.reduceAdd, Nat.reduceLeDiff, Nat.reduceSub, Zj, Nat.zero_le, Zk, Zl, Zm, Zn, Zo, Zp, Zq, Zr, Zs, Zt, binA, eqA, kEq, nilEq, fillA, putL, allOne, Zu, Zv, AV.one, Zw, Zx, Zy, and_self, and_true, true_and, lenA, firstA, EndOk, resultA, oneOf, Zz, Ya, Yb, Yc, Yd, Ye, reduceCtorEq, Yf, Yg, natOf, upTo, bMax, bHigh, bLow, boundsA, evO, Yh, Yi, againOk, Vu, Vv, Vw, Yj, Yk, eq_self, Yl, Ym, Yn, setPs, or_true, true_or, false_or, or_false, ne_eq, Yo, Vx, Vy, Yp, Yq, i_stringslite_IndexByte, c39_0, c39_1, c39_2]
        rfl
      refine RunV.to k2 ?_
      simp -implicitDefEqProofs (maxDischargeDepth := 15) only [↓reduceIte, Yr, Ys, Yt, Yu, Yv, Yw, Yx, Yy, Yz, Wa, Wb, Wc, Wd, We, Wf, Wg, Wh, Wi, Wj, Wk, Wl, Wm, Wn, Wo, Wp, Wq, Wr, Ws, Wt, Wu, opA, Wv, Ww, Wx, Wy, Wz, Va, Za, Zb, List.replicate, Zc, Zd, Ze, Vb, Vc, Vd, Ve, Vf, AV.cells, Vg, Vh, Vi, Vj, AState.set_next, AState.kill_next, Vk, Vl, Vm, Vn, Vo, Vp, Vq, Vr, Vs, Vt, partA, Zf, Zg, Zh, Zi, if_true, if_false, Nat.reduceAdd, Nat.reduceLeDiff, Nat.reduceSub, Zj, Nat.zero_le, Zk, Zl, Zm, Zn, Zo, Zp, Zq, Zr, Zs, Zt, binA, eqA, kEq, nilEq, fillA, putL, allOne, Zu, Zv, AV.one, Zw, Zx, Zy, and_self, and_true, true_and, lenA, firstA, EndOk, resultA, oneOf, Zz, Ya, Yb, Yc, Yd, Ye, reduceCtorEq, Yf, Yg, natOf, upTo, bMax, bHigh, bLow, boundsA, evO, Yh, Yi, againOk, Vu, Vv, Vw, Yj, Yk, eq_self, Yl, Ym, Yn, setPs, or_true, true_or, false_or, or_false, ne_eq, Yo, Vx, Vy, Yp, Yq, i_stringslite_Index, c47_0, c47_1, c47_2, c47_3, c47_4, c47_5, c47_6, c47_7, c47_8, c47_9, c47_10, c47_11, c47_12, c47_13, c47_14, c47_15, c47_16, c47_17, c47_18, c47_19, c47_20, c47_21, c47_22, c47_23, c47_24, c47_25, c47_26, c47_27, c47_28, c47_29, c47_30, c47_31, c47_32, c47_33, c47_34, c47_35, c47_36, c47_37, c47_38, c47_39, c47_40, c47_41, c47_42, c47_43, c47_44, c47_45, c47_46, c47_47, c47_48, c47_49, c47_50, c47_51, c47_52, c47_53, c47_54, c47_55, c47_56, c47_57]
    · have hs' : s = sp := (eq_of_beq hs).symm
      simp -implicitDefEqProofs (maxDischargeDepth := 15) only [↓reduceIte, Yr, Ys, Yt, Yu, Yv, Yw, Yx, Yy, Yz, Wa, Wb, Wc, Wd, We, Wf, Wg, Wh, Wi, Wj, Wk, Wl, Wm, Wn, Wo, Wp, Wq, Wr, Ws, Wt, Wu, opA, Wv, Ww, Wx, Wy, Wz, Va, Za, Zb, List.replicate, Zc, Zd, Ze, Vb, Vc, Vd, Ve, Vf, AV.cells, Vg, Vh, Vi, Vj, AState.set_next, AState.kill_next, Vk, Vl, Vm, Vn, Vo, Vp, Vq, Vr, Vs, Vt, partA, Zf, Zg, Zh, Zi, if_true, if_false, Nat.reduceAdd, Nat.reduceLeDiff, Nat.reduceSub, Zj, Nat.zero_le, Zk, Zl, Zm, Zn, Zo, Zp, Zq, Zr, Zs, Zt, binA, eqA, kEq, nilEq, fillA, putL, allOne, Zu, Zv, AV.one, Zw, Zx, Zy, and_self, and_true, true_and, lenA, firstA, EndOk, resultA, oneOf, Zz, Ya, Yb, Yc, Yd, Ye, reduceCtorEq, Yf, Yg, natOf, upTo, bMax, bHigh, bLow, boundsA, evO, Yh, Yi, againOk, Vu, Vv, Vw, Yj, Yk, eq_self, Yl, Ym, Yn, setPs, or_true, true_or, false_or, or_false, ne_eq, Yo, Vx, Vy, Yp, Yq, i_stringslite_Index, c47_0, c47_1, c47_2, c47_3, c47_4, c47_5, c47_6, c47_7, c47_8, c47_9, c47_10, c47_11, c47_12, c47_13, c47_14, c47_15, c47_16, c47_17, c47_18, c47_19, c47_20, c47_21, c47_22, c47_23, c47_24, c47_25, c47_26, c47_27, c47_28, c47_29, c47_30, c47_31, c47_32, c47_33, c47_34, c47_35, c47_36, c47_37, c47_38, c47_39, c47_40, c47_41, c47_42, c47_43, c47_44, c47_45, c47_46, c47_47, c47_48, c47_49, c47_50, c47_51, c47_52, c47_53, c47_54, c47_55, c47_56, c47_57, c1, c2, hs, u32]
      rw [hs']; rfl
  refine RunV.to key ?_
  simp -implicitDefEqProofs (maxDischargeDepth := 15) only [↓reduceIte, Yr, Ys, Yt, Yu, Yv, Yw, Yx, Yy, Yz, Wa, Wb, Wc, Wd, We, Wf, Wg, Wh, Wi, Wj, Wk, Wl, Wm, Wn, Wo, Wp, Wq, Wr, Ws, Wt, Wu, opA, Wv, Ww, Wx, Wy, Wz, Va, Za, Zb, List.replicate, Zc, Zd, Ze, Vb, Vc, Vd, Ve, Vf, AV.cells, Vg, Vh, Vi, Vj, AState.set_next, AState.kill_next, Vk, Vl, Vm, Vn, Vo, Vp, Vq, Vr, Vs, Vt, partA, Zf, Zg, Zh, Zi, if_true, if_false, Nat.reduceAdd, Nat.reduceLeDiff, Nat.reduceSub, Zj, Nat.zero_le, Zk, Zl, Zm, Zn, Zo, Zp, Zq, Zr, Zs, Zt, binA, eqA, kEq, nilEq, fillA, putL, allOne, Zu, Zv, AV.one, Zw, Zx, Zy, and_self, and_true, true_and, lenA, firstA, EndOk, resultA, oneOf, Zz, Ya, Yb, Yc, Yd, Ye, reduceCtorEq, Yf, Yg, natOf, upTo, bMax, bHigh, bLow, boundsA, evO, Yh, Yi, againOk, Vu, Vv, Vw, Yj, Yk, eq_self, Yl, Ym, Yn, setPs, or_true, true_or, false_or, or_false, ne_eq, Yo, Vx, Vy, Yp, Yq, i_strings_Index, c26_0, c26_1, c26_2]
theorem count_ok (s : Str) (σ : AState) : RunF RR Tryz.prog n_strings_Count [.str s, .str sp] σ (fun u σ' => u = .int .i64 (s.count 32 : Nat) ∧ σ' = σ) := by
  refine runF_intro hmx rf_strings_Count ?_
  have c1 : (((1 : Nat) : Int) == 0) = false := rfl
  have c2 : (((1 : Nat) : Int) == 1) = true := rfl
  simp -implicitDefEqProofs (maxDischargeDepth := 15) only [↓reduceIte, Yr, Ys, Yt, Yu, Yv, Yw, Yx, Yy, Yz, Wa, Wb, Wc, Wd, We, Wf, Wg, Wh, Wi, Wj, Wk, Wl, Wm, Wn, Wo, Wp, Wq, Wr, Ws, Wt, Wu, opA, Wv, Ww, Wx, Wy, Wz, Va, Za, Zb, List.replicate, Zc, Zd, Ze, Vb, Vc, Vd, Ve, Vf, AV.cells, Vg, Vh, Vi, Vj, AState.set_next, AState.kill_next, Vk, Vl, Vm, Vn, Vo, Vp, Vq, Vr, Vs, Vt, partA, Zf, Zg, Zh, Zi, if_true, if_false, Nat.reduceAdd, Nat.reduceLeDiff, Nat.reduceSub, Zj, Nat.zero_le, Zk, Zl, Zm, Zn, Zo, Zp, Zq, Zr, Zs, Zt, binA, eqA, kEq, nilEq, fillA, putL, allOne, Zu, Zv, AV.one, Zw, Zx, Zy, and_self, and_true, true_and, lenA, firstA, EndOk, resultA, oneOf, Zz, Ya, Yb, Yc, Yd, Ye, reduceCtorEq, Yf, Yg, natOf, upTo, bMax, bHigh, bLow, boundsA, evO, Yh, Yi, againOk, Vu, Vv, Vw, Yj, Yk, eq_self, Yl, Ym, Yn, setPs, or_true, true_or, false_or, or_false, ne_eq, Yo, Vx, Vy, Yp, Yq, i_strings_Count, c1_0, c1_1, c1_2, c1_3, c1_4, c1_5, c1_6, c1_7, c1_8, c1_9, c1_10, c1_11, c1_12, c1_13, c1_14, c1_15, c1_16, c1_17, c1_18, c1_19, c1, c2, u32]
  refine RunV.to (prim_count Tryz.countOk) ?_
  simp -implicitDefEqProofs (maxDischargeDepth := 15) only [↓reduceIte, Yr, Ys, Yt, Yu, Yv, Yw, Yx, Yy, Yz, Wa, Wb, Wc, Wd, We, Wf, Wg, Wh, Wi, Wj, Wk, Wl, Wm, Wn, Wo, Wp, Wq, Wr, Ws, Wt, Wu, opA, Wv, Ww, Wx, Wy, Wz, Va, Za, Zb, List.replicate, Zc, Zd, Ze, Vb, Vc, Vd, Ve, Vf, AV.cells, Vg, Vh, Vi, Vj, AState.set_next, AState.kill_next, Vk, Vl, Vm, Vn, Vo, Vp, Vq, Vr, Vs, Vt, partA, Zf, Zg, Zh, Zi, if_true, if_false, Nat.reduceAdd, Nat.reduceLeDiff, Nat.reduceSub, Zj, Nat.zero_le, Zk, Zl, Zm, Zn, Zo, Zp, Zq, Zr, Zs, Zt, binA, eqA, kEq, nilEq, fillA, putL, allOne, Zu, Zv, AV.one, Zw, Zx, Zy, and_self, and_true, true_and, lenA, firstA, EndOk, resultA, oneOf, Zz, Ya, Yb, Yc, Yd, Ye, reduceCtorEq, Yf, Yg, natOf, upTo, bMax, bHigh, bLow, boundsA, evO, Yh, Yi, againOk, Vu, Vv, Vw, Yj, Yk, eq_self, Yl, Ym, Yn, setPs, or_true, true_or, false_or, or_false, ne_eq, Yo, Vx, Vy, Yp, Yq, i_strings_Count, c1_0, c1_1, c1_2, c1_3, c1_4, c1_5, c1_6, c1_7, c1_8, c1_9, c1_10, c1_11, c1_12, c1_13, c1_14, c1_15, c1_16, c1_17, c1_18, c1_19]
  rfl
end Go.Am
namespace Go.Am
open Go.RowKit Go.Proofs Do
set_option maxRecDepth 100000
def LoopK (I : List AV → AState → Nat → Prop) (n : Nat) (Q : Ex → List AV → AState → Prop) : Ex → List AV → AState → Prop
  | .normal, ts, σ => ∃ m, m < n ∧ I ts σ m
  | .exit id, ts, σ => Q (.exit id) ts σ
  | .ret, ts, σ => Q .ret ts σ
theorem lk_n (I : List AV → AState → Nat → Prop) (n : Nat) (Q : Ex → List AV → AState → Prop) (ts : List AV) (σ : AState) : LoopK I n Q .normal ts σ = ∃ m, m < n ∧ I ts σ m := rfl
theorem lk_e (I : List AV → AState → Nat → Prop) (n : Nat) (Q : Ex → List AV → AState → Prop) (i : Nat) (ts : List AV) (σ : AState) : LoopK I n Q (.exit i) ts σ = Q (.exit i) ts σ := rfl
theorem lk_r (I : List AV → AState → Nat → Prop) (n : Nat) (Q : Ex → List AV → AState → Prop) (ts : List AV) (σ : AState) : LoopK I n Q .ret ts σ = Q .ret ts σ := rfl
theorem wp_loopK {Rs : Code → AC → Prop} {P : Program} {b : AC} {ts : List AV} {σ : AState} {Q : Ex → List AV → AState → Prop} (I : List AV → AState → Nat → Prop) (n : Nat) (h0 : I ts σ n)
    (hr : ∀ n ts σ, I ts σ n → wpC Rs P b ts σ (LoopK I n Q)) : wpC Rs P (.loop b) ts σ Q :=
  wp_loop I n h0 fun n ts σ h => wpC_mono b (hr n ts σ h) fun e ts' σ' he => by cases e <;> exact he
def splitL (ws : List Str) (i : Nat) : List AV := (ws.take i).map .str ++ List.replicate (ws.length - i) (.str [])
theorem splitL_len (ws : List Str) (i : Nat) (h : i ≤ ws.length) : (splitL ws i).length = ws.length := by simp [splitL]; omega
theorem splitL_put (ws : List Str) (i : Nat) (w : Str) (h : ws[i]? = some w) : (splitL ws i).take i ++ [.str w] ++ (splitL ws i).drop (i + 1) = splitL ws (i + 1) := by
  rw [List.append_assoc, List.singleton_append]
  have hi : i < ws.length := by
    rcases Nat.lt_or_ge i ws.length with q | q
    · exact q
    · rw [List.getElem?_eq_none q] at h; cases h
  unfold splitL
  have h1 : ((ws.take i).map AV.str).length = i := by simp; omega
  rw [List.take_append_of_le_length (by omega), List.take_of_length_le (by omega), List.drop_append, List.drop_eq_nil_of_le (by omega), List.nil_append, h1, List.drop_replicate, List.take_add_one, h]
  simp only [Option.toList, List.map_append, List.map_cons, List.map_nil, List.append_assoc, List.cons_append, List.nil_append]
  congr 3
  omega
theorem replicate_flat (n : Nat) : (List.replicate n [AV.str []]).flatten = List.replicate n (.str []) := by
  induction n with
  | zero => rfl
  | succ n ih => rw [List.replicate_succ, List.flatten_cons, ih, List.replicate_succ]; rfl
theorem split_ok {ws : List Str} (hne : ws ≠ []) (hn : Nices ws) (hl : (jn ws sp).length ≤ 1099511627776) (σ : AState) :
    RunF RR Tryz.prog n_strings_Split [.str (jn ws sp), .str sp] σ (fun u σ' => u = .slice (some (σ.next, 0)) ws.length (some ws.length) 1 ∧ σ' = σ.push (.cells (ws.map .str) true)) := by
  refine runF_intro hmx rf_strings_Split ?_
  simp -implicitDefEqProofs (maxDischargeDepth := 15) only [↓reduceIte, Yr, Ys, Yt, Yu, Yv, Yw, Yx, Yy, Yz, Wa, Wb, Wc, Wd, We, Wf, Wg, Wh, Wi, Wj, Wk, Wl, Wm, Wn, Wo, Wp, Wq, Wr, Ws, Wt, Wu, opA, Wv, Ww, Wx, Wy, Wz, Va, Za, Zb, List.replicate, Zc, Zd, Ze, Vb, Vc, Vd, Ve, Vf, AV.cells, Vg, Vh, Vi, Vj, AState.set_next, AState.kill_next, Vk, Vl, Vm, Vn, Vo, Vp, Vq, Vr, Vs, Vt, partA, Zf, Zg, Zh, Zi, if_true, if_false, Nat.reduceAdd, Nat.reduceLeDiff, Nat.reduceSub, Zj, Nat.zero_le, Zk, Zl, Zm, Zn, Zo, Zp, Zq, Zr, Zs, Zt, binA, eqA, kEq, nilEq, fillA, putL, allOne, Zu, Zv, AV.one, Zw, Zx, Zy, and_self, and_true, true_and, lenA, firstA, EndOk, resultA, oneOf, Zz, Ya, Yb, Yc, Yd, Ye, reduceCtorEq, Yf, Yg, natOf, upTo, bMax, bHigh, bLow, boundsA, evO, Yh, Yi, againOk, Vu, Vv, Vw, Yj, Yk, eq_self, Yl, Ym, Yn, setPs, or_true, true_or, false_or, or_false, ne_eq, Yo, Vx, Vy, Yp, Yq, i_strings_Split, c41_0, c41_1, c41_2]
  have key : RunF RR Tryz.prog n_strings_genSplit [.str (jn ws sp), .str sp, .int .i64 0, .int .i64 (-1)] σ (fun u σ' => u = .slice (some (σ.next, 0)) ws.length (some ws.length) 1 ∧ σ' = σ.push (.cells (ws.map .str) true)) := by
    refine runF_intro hmx rf_strings_genSplit ?_
    have hN : 1 ≤ ws.length := by cases ws with | nil => exact absurd rfl hne | cons a r => simp
    have hNl := jn_len (l := ws) (s := sp) (by simp)
    have c1 : ((-1 : Int) == 0) = false := rfl
    have c2 : (sp == ([] : Str)) = false := rfl
    have c3 : decide ((-1 : Int) < 0) = true := rfl
    have hcnt := count_jn hne hn
    have w1 : wrapF .i64 (((ws.length - 1 : Nat) : Int) + 1) = (ws.length : Int) := by rw [wrap_i64 (by omega)]; omega
    have w2 : wrapF .i64 (((jn ws sp).length : Int) + 1) = ((jn ws sp).length : Int) + 1 := wrap_i64 (by omega)
    have w3 : wrapF .i64 ((ws.length : Int) - 1) = ((ws.length - 1 : Nat) : Int) := by rw [wrap_i64 (by omega)]; omega
    have c4 : ¬ (((jn ws sp).length : Int) + 1 < (ws.length : Int)) := by omega
    have c5 : ws.length * 16 ≤ 281474976710656 := by omega
    simp -implicitDefEqProofs (maxDischargeDepth := 15) only [↓reduceIte, Yr, Ys, Yt, Yu, Yv, Yw, Yx, Yy, Yz, Wa, Wb, Wc, Wd, We, Wf, Wg, Wh, Wi, Wj, Wk, Wl, Wm, Wn, Wo, Wp, Wq, Wr, Ws, Wt, Wu, opA, Wv, Ww, Wx, Wy, Wz, Va, Za, Zb, List.replicate, Zc, Zd, Ze, Vb, Vc, Vd, Ve, Vf, AV.cells, Vg, Vh, Vi, Vj, AState.set_next, AState.kill_next, Vk, Vl, Vm, Vn, Vo, Vp, Vq, Vr, Vs, Vt, partA, Zf, Zg, Zh, Zi, if_true, if_false, Nat.reduceAdd, Nat.reduceLeDiff, Nat.reduceSub, Zj, Nat.zero_le, Zk, Zl, Zm, Zn, Zo, Zp, Zq, Zr, Zs, Zt, binA, eqA, kEq, nilEq, fillA, putL, allOne, Zu, Zv, AV.one, Zw, Zx, Zy, and_self, and_true, true_and, lenA, firstA, EndOk, resultA, oneOf, Zz, Ya, Yb, Yc, Yd, Ye, reduceCtorEq, Yf, Yg, natOf, upTo, bMax, bHigh, bLow, boundsA, evO, Yh, Yi, againOk, Vu, Vv, Vw, Yj, Yk, eq_self, Yl, Ym, Yn, setPs, or_true, true_or, false_or, or_false, ne_eq, Yo, Vx, Vy, Yp, Yq, i_strings_genSplit, c12_0, c12_1, c12_2, c12_3, c12_4, c12_5, c12_6, c12_7, c12_8, c12_9, c12_10, c12_11, c12_12, c12_13, c12_14, c12_15, c12_16, c12_17, c12_18, c12_19, c12_20, c12_21, c12_22, c12_23, c12_24, c12_25, c12_26, c12_27, c12_28, c12_29, c1, c2, c3]
    refine RunV.to (count_ok _ _) ?_
    rw [hcnt]
    simp -implicitDefEqProofs (maxDischargeDepth := 15) only [↓reduceIte, Yr, Ys, Yt, Yu, Yv, Yw, Yx, Yy, Yz, Wa, Wb, Wc, Wd, We, Wf, Wg, Wh, Wi, Wj, Wk, Wl, Wm, Wn, Wo, Wp, Wq, Wr, Ws, Wt, Wu, opA, Wv, Ww, Wx, Wy, Wz, Va, Za, Zb, List.replicate, Zc, Zd, Ze, Vb, Vc, Vd, Ve, Vf, AV.cells, Vg, Vh, Vi, Vj, AState.set_next, AState.kill_next, Vk, Vl, Vm, Vn, Vo, Vp, Vq, Vr, Vs, Vt, partA, Zf, Zg, Zh, Zi, if_true, if_false, Nat.reduceAdd, Nat.reduceLeDiff, Nat.reduceSub, Zj, Nat.zero_le, Zk, Zl, Zm, Zn, Zo, Zp, Zq, Zr, Zs, Zt, binA, eqA, kEq, nilEq, fillA, putL, allOne, Zu, Zv, AV.one, Zw, Zx, Zy, and_self, and_true, true_and, lenA, firstA, EndOk, resultA, oneOf, Zz, Ya, Yb, Yc, Yd, Ye, reduceCtorEq, Yf, Yg, natOf, upTo, bMax, bHigh, bLow, boundsA, evO, Yh, Yi, againOk, Vu, Vv, Vw, Yj, Yk, eq_self, Yl, Ym, Yn, setPs, or_true, true_or, false_or, or_false, ne_eq, Yo, Vx, Vy, Yp, Yq, i_strings_genSplit, c12_0, c12_1, c12_2, c12_3, c12_4, c12_5, c12_6, c12_7, c12_8, c12_9, c12_10, c12_11, c12_12, c12_13, c12_14, c12_15, c12_16, c12_17, c12_18, c12_19, c12_20, c12_21, c12_22, c12_23, c12_24, c12_25, c12_26, c12_27, c12_28, c12_29, w1, w2, w3, minA, c4, c5, natOf_cast, replicate_flat, Nat.lt_add_one, Nat.zero_lt_succ, show (0 < 1) = True from by simp, show (0 < 16) = True from by simp]
    refine wp_loopK (fun ts σ' m => ∃ i : Nat, i + m + 1 = ws.length ∧ σ' = σ.push (.cells (splitL ws i) true) ∧ ∃ j4 j5 j6 j7 j8 j11 j12 j13 j14 j15 j16 j17 j18 j19 j20 j21 j22 j23 j24 j25 j26 j27 j28 j29 j30 j31 j32 j33 j34 j35 j36 j37 j38 j39 j40 j41 j42 j43 j44 j45 j46 j47 j48 j49 j50 j51 j52 j53 j54 j55 j56 j57 j58 j59 j60 j61 j62 j63 j64 j65 : AV, ts = [.str (jn (ws.drop i) sp), .str sp, .int .i64 0, .int .i64 ((ws.length - 1 : Nat) : Int), j4, j5, j6, j7, j8, .slice (some (σ.next, 0)) ws.length (some ws.length) 1, .int .i64 i, j11, j12, j13, j14, j15, j16, j17, j18, j19, j20, j21, j22, j23, j24, j25, j26, j27, j28, j29, j30, j31, j32, j33, j34, j35, j36, j37, j38, j39, j40, j41, j42, j43, j44, j45, j46, j47, j48, j49, j50, j51, j52, j53, j54, j55, j56, j57, j58, j59, j60, j61, j62, j63, j64, j65]) (ws.length - 1) ⟨0, by omega, by simp [splitL], _, _, _, _, _, _, _, _, _, _, _, _, _, _, _, _, _, _, _, _, _, _, _, _, _, _, _, _, _, _, _, _, _, _, _, _, _, _, _, _, _, _, _, _, _, _, _, _, _, _, _, _, _, _, _, _, _, _, _, _, rfl⟩ ?_
    rintro m ts σ' ⟨i, hi, rfl, j4, j5, j6, j7, j8, j11, j12, j13, j14, j15, j16, j17, j18, j19, j20, j21, j22, j23, j24, j25, j26, j27, j28, j29, j30, j31, j32, j33, j34, j35, j36, j37, j38, j39, j40, j41, j42, j43, j44, j45, j46, j47, j48, j49, j50, j51, j52, j53, j54, j55, j56, j57, j58, j59, j60, j61, j62, j63, j64, j65, rfl⟩
    have hsl := splitL_len ws i (by omega)
    obtain ⟨w, hw⟩ : ∃ w, ws[i]? = some w := ⟨ws[i]'(by omega), List.getElem?_eq_getElem _⟩
    have hdr : ws.drop i = w :: ws.drop (i + 1) := by
      rw [List.drop_eq_getElem_cons (by omega)]
      congr 1
      rw [List.getElem?_eq_getElem (by omega)] at hw; cases hw; rfl
    have e1 : (0 : Int) ≤ (i : Int) ∧ (i : Int) < (ws.length : Int) := by omega
    have e2 : i + 1 ≤ ws.length := by omega
    by_cases hlt : i < ws.length - 1
    · have d1 : decide ((i : Int) < ((ws.length - 1 : Nat) : Int)) = true := decide_eq_true (by omega)
      have hnn : ws.drop (i + 1) ≠ [] := by
        intro q; have := congrArg List.length q; simp at this; omega
      have hs : jn (ws.drop i) sp = w ++ 32 :: jn (ws.drop (i + 1)) sp := by rw [hdr, jn_to w hnn]; simp
      have hwn : (32 : UInt8) ∉ w := (hn w (List.mem_of_getElem? hw)).2
      have hix := index_nice (r := jn (ws.drop (i + 1)) sp) hwn
      have hwl : w.length ≤ (jn ws sp).length := jn_le_mem (List.mem_of_getElem? hw)
      rw [hs]
      simp -implicitDefEqProofs (maxDischargeDepth := 15) only [↓reduceIte, Yr, Ys, Yt, Yu, Yv, Yw, Yx, Yy, Yz, Wa, Wb, Wc, Wd, We, Wf, Wg, Wh, Wi, Wj, Wk, Wl, Wm, Wn, Wo, Wp, Wq, Wr, Ws, Wt, Wu, opA, Wv, Ww, Wx, Wy, Wz, Va, Za, Zb, List.replicate, Zc, Zd, Ze, Vb, Vc, Vd, Ve, Vf, AV.cells, Vg, Vh, Vi, Vj, AState.set_next, AState.kill_next, Vk, Vl, Vm, Vn, Vo, Vp, Vq, Vr, Vs, Vt, partA, Zf, Zg, Zh, Zi, if_true, if_false, Nat.reduceAdd, Nat.reduceLeDiff, Nat.reduceSub, Zj, Nat.zero_le, Zk, Zl, Zm, Zn, Zo, Zp, Zq, Zr, Zs, Zt, binA, eqA, kEq, nilEq, fillA, putL, allOne, Zu, Zv, AV.one, Zw, Zx, Zy, and_self, and_true, true_and, lenA, firstA, EndOk, resultA, oneOf, Zz, Ya, Yb, Yc, Yd, Ye, reduceCtorEq, Yf, Yg, natOf, upTo, bMax, bHigh, bLow, boundsA, evO, Yh, Yi, againOk, Vu, Vv, Vw, Yj, Yk, eq_self, Yl, Ym, Yn, setPs, or_true, true_or, false_or, or_false, ne_eq, Yo, Vx, Vy, Yp, Yq, i_strings_genSplit, c12_0, c12_1, c12_2, c12_3, c12_4, c12_5, c12_6, c12_7, c12_8, c12_9, c12_10, c12_11, c12_12, c12_13, c12_14, c12_15, c12_16, c12_17, c12_18, c12_19, c12_20, c12_21, c12_22, c12_23, c12_24, c12_25, c12_26, c12_27, c12_28, c12_29, d1]
      refine RunV.to (index_ok _ _) ?_
      rw [hix]
      have d2 : decide ((w.length : Int) < 0) = false := decide_eq_false (by omega)
      have w4 : wrapF .i64 ((w.length : Int) + 0) = (w.length : Int) := by rw [wrap_i64 (by omega)]; omega
      have w5 : wrapF .i64 ((w.length : Int) + ((1 : Nat) : Int)) = ((w.length + 1 : Nat) : Int) := by rw [wrap_i64 (by omega)]; rfl
      have w6 : wrapF .i64 ((i : Int) + 1) = ((i + 1 : Nat) : Int) := by rw [wrap_i64 (by omega)]; rfl
      have t1 : (w ++ 32 :: jn (ws.drop (i + 1)) sp).take w.length = w := by simp
      have t2 : (((w ++ 32 :: jn (ws.drop (i + 1)) sp).take (w.length + ((jn (ws.drop (i + 1)) sp).length + 1))).drop (w.length + 1)) = jn (ws.drop (i + 1)) sp := by
        rw [List.take_of_length_le (by simp)]
        simp [List.drop_append]
      simp -implicitDefEqProofs (maxDischargeDepth := 15) only [↓reduceIte, Yr, Ys, Yt, Yu, Yv, Yw, Yx, Yy, Yz, Wa, Wb, Wc, Wd, We, Wf, Wg, Wh, Wi, Wj, Wk, Wl, Wm, Wn, Wo, Wp, Wq, Wr, Ws, Wt, Wu, opA, Wv, Ww, Wx, Wy, Wz, Va, Za, Zb, List.replicate, Zc, Zd, Ze, Vb, Vc, Vd, Ve, Vf, AV.cells, Vg, Vh, Vi, Vj, AState.set_next, AState.kill_next, Vk, Vl, Vm, Vn, Vo, Vp, Vq, Vr, Vs, Vt, partA, Zf, Zg, Zh, Zi, if_true, if_false, Nat.reduceAdd, Nat.reduceLeDiff, Nat.reduceSub, Zj, Nat.zero_le, Zk, Zl, Zm, Zn, Zo, Zp, Zq, Zr, Zs, Zt, binA, eqA, kEq, nilEq, fillA, putL, allOne, Zu, Zv, AV.one, Zw, Zx, Zy, and_self, and_true, true_and, lenA, firstA, EndOk, resultA, oneOf, Zz, Ya, Yb, Yc, Yd, Ye, reduceCtorEq, Yf, Yg, natOf, upTo, bMax, bHigh, bLow, boundsA, evO, Yh, Yi, againOk, Vu, Vv, Vw, Yj, Yk, eq_self, Yl, Ym, Yn, setPs, or_true, true_or, false_or, or_false, ne_eq, Yo, Vx, Vy, Yp, Yq, i_strings_genSplit, c12_0, c12_1, c12_2, c12_3, c12_4, c12_5, c12_6, c12_7, c12_8, c12_9, c12_10, c12_11, c12_12, c12_13, c12_14, c12_15, c12_16, c12_17, c12_18, c12_19, c12_20, c12_21, c12_22, c12_23, c12_24, c12_25, c12_26, c12_27, c12_28, c12_29, d2, w4, w5, natOf_cast, List.length_append, e1, e2, hsl, Nat.mul_one, Nat.sub_zero]
      have l4 : w.length ≤ w.length + ((jn (ws.drop (i + 1)) sp).length + 1) := by omega
      have l5 : w.length + 1 ≤ w.length + ((jn (ws.drop (i + 1)) sp).length + 1) := by omega
      simp -implicitDefEqProofs (maxDischargeDepth := 15) only [↓reduceIte, Yr, Ys, Yt, Yu, Yv, Yw, Yx, Yy, Yz, Wa, Wb, Wc, Wd, We, Wf, Wg, Wh, Wi, Wj, Wk, Wl, Wm, Wn, Wo, Wp, Wq, Wr, Ws, Wt, Wu, opA, Wv, Ww, Wx, Wy, Wz, Va, Za, Zb, List.replicate, Zc, Zd, Ze, Vb, Vc, Vd, Ve, Vf, AV.cells, Vg, Vh, Vi, Vj, AState.set_next, AState.kill_next, Vk, Vl, Vm, Vn, Vo, Vp, Vq, Vr, Vs, Vt, partA, Zf, Zg, Zh, Zi, if_true, if_false, Nat.reduceAdd, Nat.reduceLeDiff, Nat.reduceSub, Zj, Nat.zero_le, Zk, Zl, Zm, Zn, Zo, Zp, Zq, Zr, Zs, Zt, binA, eqA, kEq, nilEq, fillA, putL, allOne, Zu, Zv, AV.one, Zw, Zx, Zy, and_self, and_true, true_and, lenA, firstA, EndOk, resultA, oneOf, Zz, Ya, Yb, Yc, Yd, Ye, reduceCtorEq, Yf, Yg, natOf, upTo, bMax, bHigh, bLow, boundsA, evO, Yh, Yi, againOk, Vu, Vv, Vw, Yj, Yk, eq_self, Yl, Ym, Yn, setPs, or_true, true_or, false_or, or_false, ne_eq, Yo, Vx, Vy, Yp, Yq, i_strings_genSplit, c12_0, c12_1, c12_2, c12_3, c12_4, c12_5, c12_6, c12_7, c12_8, c12_9, c12_10, c12_11, c12_12, c12_13, c12_14, c12_15, c12_16, c12_17, c12_18, c12_19, c12_20, c12_21, c12_22, c12_23, c12_24, c12_25, c12_26, c12_27, c12_28, c12_29, l4, l5, d2, w4, w5, w6, t1, t2, natOf_cast, List.length_append, e1, e2, hsl, Nat.mul_one, Nat.sub_zero, lk_n, splitL_put ws i w hw]
      exact ⟨m - 1, by omega, i + 1, by omega, rfl, _, _, _, _, _, _, _, _, _, _, _, _, _, _, _, _, _, _, _, _, _, _, _, _, _, _, _, _, _, _, _, _, _, _, _, _, _, _, _, _, _, _, _, _, _, _, _, _, _, _, _, _, _, _, _, _, _, _, _, _, rfl⟩
    · have d1 : decide ((i : Int) < ((ws.length - 1 : Nat) : Int)) = false := decide_eq_false (by omega)
      have hiN : i + 1 = ws.length := by omega
      have hlast : jn (ws.drop i) sp = w := by
        rw [hdr, List.drop_eq_nil_of_le (show ws.length ≤ i + 1 by omega), jn_one]
      rw [hlast]
      have w6 : wrapF .i64 ((i : Int) + 1) = ((i + 1 : Nat) : Int) := by rw [wrap_i64 (by omega)]; rfl
      have hfin : splitL ws ws.length = ws.map .str := by unfold splitL; rw [List.take_length, Nat.sub_self]; simp
      simp -implicitDefEqProofs (maxDischargeDepth := 15) only [↓reduceIte, Yr, Ys, Yt, Yu, Yv, Yw, Yx, Yy, Yz, Wa, Wb, Wc, Wd, We, Wf, Wg, Wh, Wi, Wj, Wk, Wl, Wm, Wn, Wo, Wp, Wq, Wr, Ws, Wt, Wu, opA, Wv, Ww, Wx, Wy, Wz, Va, Za, Zb, List.replicate, Zc, Zd, Ze, Vb, Vc, Vd, Ve, Vf, AV.cells, Vg, Vh, Vi, Vj, AState.set_next, AState.kill_next, Vk, Vl, Vm, Vn, Vo, Vp, Vq, Vr, Vs, Vt, partA, Zf, Zg, Zh, Zi, if_true, if_false, Nat.reduceAdd, Nat.reduceLeDiff, Nat.reduceSub, Zj, Nat.zero_le, Zk, Zl, Zm, Zn, Zo, Zp, Zq, Zr, Zs, Zt, binA, eqA, kEq, nilEq, fillA, putL, allOne, Zu, Zv, AV.one, Zw, Zx, Zy, and_self, and_true, true_and, lenA, firstA, EndOk, resultA, oneOf, Zz, Ya, Yb, Yc, Yd, Ye, reduceCtorEq, Yf, Yg, natOf, upTo, bMax, bHigh, bLow, boundsA, evO, Yh, Yi, againOk, Vu, Vv, Vw, Yj, Yk, eq_self, Yl, Ym, Yn, setPs, or_true, true_or, false_or, or_false, ne_eq, Yo, Vx, Vy, Yp, Yq, i_strings_genSplit, c12_0, c12_1, c12_2, c12_3, c12_4, c12_5, c12_6, c12_7, c12_8, c12_9, c12_10, c12_11, c12_12, c12_13, c12_14, c12_15, c12_16, c12_17, c12_18, c12_19, c12_20, c12_21, c12_22, c12_23, c12_24, c12_25, c12_26, c12_27, c12_28, c12_29, d1, w6, natOf_cast, e1, e2, hsl, Nat.mul_one, Nat.sub_zero, lk_e, splitL_put ws i w hw]
      simp only [hiN, hfin]
      exact ⟨trivial, trivial⟩
  refine RunV.to key ?_
  simp -implicitDefEqProofs (maxDischargeDepth := 15) only [↓reduceIte, Yr, Ys, Yt, Yu, Yv, Yw, Yx, Yy, Yz, Wa, Wb, Wc, Wd, We, Wf, Wg, Wh, Wi, Wj, Wk, Wl, Wm, Wn, Wo, Wp, Wq, Wr, Ws, Wt, Wu, opA, Wv, Ww, Wx, Wy, Wz, Va, Za, Zb, List.replicate, Zc, Zd, Ze, Vb, Vc, Vd, Ve, Vf, AV.cells, Vg, Vh, Vi, Vj, AState.set_next, AState.kill_next, Vk, Vl, Vm, Vn, Vo, Vp, Vq, Vr, Vs, Vt, partA, Zf, Zg, Zh, Zi, if_true, if_false, Nat.reduceAdd, Nat.reduceLeDiff, Nat.reduceSub, Zj, Nat.zero_le, Zk, Zl, Zm, Zn, Zo, Zp, Zq, Zr, Zs, Zt, binA, eqA, kEq, nilEq, fillA, putL, allOne, Zu, Zv, AV.one, Zw, Zx, Zy, and_self, and_true, true_and, lenA, firstA, EndOk, resultA, oneOf, Zz, Ya, Yb, Yc, Yd, Ye, reduceCtorEq, Yf, Yg, natOf, upTo, bMax, bHigh, bLow, boundsA, evO, Yh, Yi, againOk, Vu, Vv, Vw, Yj, Yk, eq_self, Yl, Ym, Yn, setPs, or_true, true_or, false_or, or_false, ne_eq, Yo, Vx, Vy, Yp, Yq, i_strings_Split, c41_0, c41_1, c41_2]
end Go.Am
namespace Go.Proofs
open Go.Shelf
def Tryz.lays145_ren : Go.Shelf.Ren := ⟨fun | 145 => 9 | 220 => 37 | 219 => 68 | 217 => 106 | 225 => 107 | 224 => 108 | 267 => 109 | 266 => 143 | 314 => 144 | n => n, fun | 9 => 9 | 4 => 4 | 59 => 36 | 3 => 3 | 5 => 5 | 46 => 161 | 146 => 195 | 51 => 105 | n => n, fun | 1 => 0 | n => n⟩
theorem Tryz.lays145 : Go.Proofs.Lays.n145 Tryz.prog Tryz.lays145_ren := {
  mixed := by kernel_rfl
  f145 := Tryz.func9.trans (congrArg some (by kernel_rfl))
  f217 := Tryz.func106.trans (congrArg some (by kernel_rfl))
  f219 := Tryz.func68.trans (congrArg some (by kernel_rfl))
  f220 := Tryz.func37.trans (congrArg some (by kernel_rfl))
  f224 := Tryz.func108.trans (congrArg some (by kernel_rfl))
  f225 := Tryz.func107.trans (congrArg some (by kernel_rfl))
  f266 := Tryz.func143.trans (congrArg some (by kernel_rfl))
  f267 := Tryz.func109.trans (congrArg some (by kernel_rfl))
  f314 := Tryz.func144.trans (congrArg some (by kernel_rfl))
  t3 := Tryz.underlying3
  a3 := Tryz.isAgg3
  z3 := Tryz.sizeOf3
  v3 := Tryz.zeroValue3
  t4 := Tryz.underlying4
  a4 := Tryz.isAgg4
  z4 := Tryz.sizeOf4
  v4 := Tryz.zeroValue4
  t5 := Tryz.underlying5
  a5 := Tryz.isAgg5
  z5 := Tryz.sizeOf5
  v5 := Tryz.zeroValue5
  t9 := Tryz.underlying9
  a9 := Tryz.isAgg9
  z9 := Tryz.sizeOf9
  v9 := Tryz.zeroValue9
  t46 := Tryz.underlying161
  a46 := Tryz.isAgg161
  z46 := Tryz.sizeOf161
  v46 := Tryz.zeroValue161
  t51 := Tryz.underlying105
  a51 := Tryz.isAgg105
  z51 := Tryz.sizeOf105
  v51 := Tryz.zeroValue105
  t59 := Tryz.underlying36
  a59 := Tryz.isAgg36
  z59 := Tryz.sizeOf36
  v59 := Tryz.zeroValue36
  t146 := Tryz.underlying195
  a146 := Tryz.isAgg195
  z146 := Tryz.sizeOf195
  v146 := Tryz.zeroValue195
  g1 := by kernel_rfl }
theorem Tryz.cutOk (s sep : ByteArray) (m : Int) (w : World) (hs : s.size < 4294967281) (hm : w.cell? ⟨0, 0, none⟩ = some (.int .i64 m)) :
    Calls Tryz.prog 9 #[.string s, .string sep] w fun e w' => e = .returned (.tuple #[.string ⟨(Lib.cut s.data.toList sep.data.toList).1.toArray⟩, .string ⟨(Lib.cut s.data.toList sep.data.toList).2.1.toArray⟩, .bool (Lib.cut s.data.toList sep.data.toList).2.2]) ∧ ∃ n, w' = w.drewN n :=
  Any.strings_Cut Tryz.lays145 s sep m w hs hm
end Go.Proofs
namespace Go.Am
open Go.RowKit Go.Proofs
theorem cut_calls {Rs : Code → AC → Prop} {σ : AState} {m : Int} (hg : σ.get 0 = some (.cells [.int .i64 m] false)) (s sep : List UInt8) (hs : s.length < 4294967281) :
    RunF Rs Tryz.prog 9 [.str s, .str sep] σ (fun u σ' => u = .tuple [.str (Lib.cut s sep).1, .str (Lib.cut s sep).2.1, .bool (Lib.cut s sep).2.2] ∧ σ' = σ) := by
  refine RunF.of_calls Tryz.func9 (by kernel_rfl) (by kernel_rfl) fun w0 ρ D cargs w ha hS => ?_
  obtain ⟨v1, r1, e1, q1, ha⟩ := VRelL.cons_iff.1 ha
  obtain ⟨v2, r2, e2, q2, ha⟩ := VRelL.cons_iff.1 ha
  have e3 := VRelL.nil_iff.1 ha
  subst e3; subst e2
  have hc : cargs = #[v1, v2] := Array.ext' (by simpa using e1)
  subst hc
  simp only [VRel] at q1 q2
  obtain ⟨b1, rfl, rfl⟩ := q1
  obtain ⟨b2, rfl, rfl⟩ := q2
  obtain ⟨l, hl, hb, ho⟩ := hS.glob 0 (of_decide_eq_true (by kernel_rfl))
  obtain ⟨_, hcell, _⟩ := hS.blk 0 _ l hg hl
  obtain ⟨y, hy, hv⟩ := hcell 0 _ rfl
  simp only [VRel] at hv
  subst hv
  rw [hb, ho] at hy
  refine (Tryz.cutOk b1 b2 m w (by simpa using hs) hy).mono ?_
  rintro e w' ⟨rfl, n, rfl⟩
  refine ⟨_, _, rfl, ⟨rfl, rfl⟩, ?_, below_drewN (Below.refl _ _) n⟩
  exact VRel.tuple (.mk_cons VRel.str (.mk_cons VRel.str (.mk_cons VRel.bool .mk_nil)))
end Go.Am
namespace Go.Am
open Go.RowKit Go.Proofs Do
set_option maxRecDepth 100000
theorem index_sep (a r : Str) (h : (58 : UInt8) ∉ a) : Lib.index (a ++ 58 :: 32 :: r) [58, 32] = a.length := by
  induction a with
  | nil => simp [Lib.index]
  | cons x a ih =>
    simp only [List.mem_cons, not_or] at h
    have h1 : (58 == x) = false := by simp only [beq_eq_false_iff_ne]; exact h.1
    have h2 := ih h.2
    have h3 : ((a.length : Int) == -1) = false := by simp only [beq_eq_false_iff_ne]; omega
    have h4 : ([58, 32] : Str).isPrefixOf (x :: (a ++ 58 :: 32 :: r)) = false := by rw [List.isPrefixOf_cons_cons, h1]; rfl
    simp only [List.cons_append, Lib.index, h4, h2, h3]
    simp
theorem cut_sep (a r : Str) (h : (58 : UInt8) ∉ a) : Lib.cut (a ++ 58 :: 32 :: r) [58, 32] = (a, r, true) := by
  unfold Lib.cut
  rw [index_sep a r h]
  rw [if_pos (by omega)]
  simp [List.drop_append]
def headS (n : Nat) : Str := sLevel ++ itoaS n
theorem headS_no : ((List.range 48).all fun n => !(headS n).contains 58) = true := by decide
theorem cut_line {n : Nat} (hn : n < 48) (r : Str) : Lib.cut (lineS (n, r)) [58, 32] = (headS n, r, true) := by
  have h := List.all_eq_true.1 headS_no n (by simpa using hn)
  have : lineS (n, r) = headS n ++ 58 :: 32 :: r := by simp [lineS, headS, sColon]
  rw [this]
  exact cut_sep _ _ (by simpa using h)
def cntS (s : Str) : Nat := s.count 32 + 1
theorem cntS_jn (l : List Str) (h : l ≠ []) (hn : Nices l) : cntS (jn l sp) = l.length := by
  have := count_jn h hn
  have : l.length ≠ 0 := by simpa using h
  unfold cntS; omega
theorem strs_drop {g : Mem} {i L : Nat} {ws : List Str} {w : Bool} (h : g i = some (.cells (ws.map .str) w)) (hL : ws.length = L) {a : Nat} (ha : a ≤ L) : Strs g (some (i, a)) (L - a) 1 (ws.drop a) :=
  .inr ⟨by simp; omega, rfl, i, a, _, w, rfl, h, by simp; omega, by rw [List.take_of_length_le (by simp; omega), List.map_drop]⟩
theorem jn_drop : ∀ (ws : List Str) (a : Nat), (jn (ws.drop a) sp).length ≤ (jn ws sp).length
  | [], a => by simp
  | x :: r, 0 => by simp
  | x :: r, a + 1 => by
    rw [List.drop_succ_cons]
    refine Nat.le_trans (jn_drop r a) ?_
    cases r with
    | nil => simp [jn_nil]
    | cons y r => rw [jn_cons2]; simp only [List.length_append]; omega
theorem ol_tail {σ : AState} {iw L a : Nat} {ws rs : List Str} (hw : σ.get iw = some (.cells (ws.map .str) true)) (hL : ws.length = L) (hLb : L ≤ 1099511627776) (hjb : (jn ws sp).length ≤ 1099511627776) (ha : a ≤ L) (hp : pre ws a (jn rs sp) = true) (hrs : rs ≠ []) (hrn : Nices rs) (hrb : (jn rs sp).length ≤ 1099511627776) (hW : σ.Wf)
    {v3 v4 v10 v45 v46 v47 : AV} {j0 j1 j2 j5 j6 j7 j11 j12 j13 j15 j16 j17 j18 j19 j20 j21 j22 j23 j24 j25 j26 j27 j28 j29 j30 j31 j32 j33 j34 j35 j36 j37 j38 j39 j40 j41 j42 j43 j44 j48 j49 j50 j51 j52 j53 j54 j55 j56 j57 j58 j59 j60 j61 j62 j63 j64 j65 j66 j67 j68 j69 j70 j71 j72 j73 j74 j75 j76 j77 j78 j79 j80 j81 j82 j83 j84 j85 j86 j87 j88 j89 j90 j91 j92 j93 j94 j95 j96 j97 j98 j99 j100 j101 j102 j103 j104 j105 j106 j107 j108 j109 j110 j111 j112 j113 j114 j115 j116 j117 j118 j119 j120 j121 j122 j123 j124 j125 j126 j127 j128 j129 j130 j131 j132 j133 j134 j135 j136 j137 j138 j139 j140 j141 j142 j143 j144 j145 j146 j147 : AV} {Q : Ex → List AV → AState → Prop}
    (hQ : ∀ (j0 j1 j2 j5 j6 j7 j11 j12 j13 j14 j15 j16 j17 j18 j19 j20 j21 j22 j23 j24 j25 j26 j27 j28 j29 j30 j31 j32 j33 j34 j35 j36 j37 j38 j39 j40 j41 j42 j43 j44 j48 j49 j50 j51 j52 j53 j54 j55 j56 j57 j58 j59 j60 j61 j62 j63 j64 j65 j66 j67 j68 j69 j70 j71 j72 j73 j74 j75 j76 j77 j78 j79 j80 j81 j82 j83 j84 j85 j86 j87 j88 j89 j90 j91 j92 j93 j94 j95 j96 j97 j98 j99 j100 j101 j102 j103 j104 j105 j106 j107 j108 j109 j110 j111 j112 j113 j114 j115 j116 j117 j118 j119 j120 j121 j122 j123 j124 j125 j126 j127 j128 j129 j130 j131 j132 j133 j134 j135 j136 j137 j138 j139 j140 j141 j142 j143 j144 j145 j146 j147 : AV), Q .normal [j0, j1, j2, v3, v4, j5, j6, j7, .slice (some (iw, 0)) L (some L) 1, .int .i64 ((a + cntS (jn rs sp) : Nat) : Int), v10, j11, j12, j13, j14, j15, j16, j17, j18, j19, j20, j21, j22, j23, j24, j25, j26, j27, j28, j29, j30, j31, j32, j33, j34, j35, j36, j37, j38, j39, j40, j41, j42, j43, j44, v45, v46, v47, j48, j49, j50, j51, j52, j53, j54, j55, j56, j57, j58, j59, j60, j61, j62, j63, j64, j65, j66, j67, j68, j69, j70, j71, j72, j73, j74, j75, j76, j77, j78, j79, j80, j81, j82, j83, j84, j85, j86, j87, j88, j89, j90, j91, j92, j93, j94, j95, j96, j97, j98, j99, j100, j101, j102, j103, j104, j105, j106, j107, j108, j109, j110, j111, j112, j113, j114, j115, j116, j117, j118, j119, j120, j121, j122, j123, j124, j125, j126, j127, j128, j129, j130, j131, j132, j133, j134, j135, j136, j137, j138, j139, j140, j141, j142, j143, j144, j145, j146, j147] (σ.push (.cells (rs.map .str) true))) :
    wpC RR Tryz.prog c28_25 [j0, j1, j2, v3, v4, j5, j6, j7, .slice (some (iw, 0)) L (some L) 1, .int .i64 a, v10, j11, j12, j13, .str (jn rs sp), j15, j16, j17, j18, j19, j20, j21, j22, j23, j24, j25, j26, j27, j28, j29, j30, j31, j32, j33, j34, j35, j36, j37, j38, j39, j40, j41, j42, j43, j44, v45, v46, v47, j48, j49, j50, j51, j52, j53, j54, j55, j56, j57, j58, j59, j60, j61, j62, j63, j64, j65, j66, j67, j68, j69, j70, j71, j72, j73, j74, j75, j76, j77, j78, j79, j80, j81, j82, j83, j84, j85, j86, j87, j88, j89, j90, j91, j92, j93, j94, j95, j96, j97, j98, j99, j100, j101, j102, j103, j104, j105, j106, j107, j108, j109, j110, j111, j112, j113, j114, j115, j116, j117, j118, j119, j120, j121, j122, j123, j124, j125, j126, j127, j128, j129, j130, j131, j132, j133, j134, j135, j136, j137, j138, j139, j140, j141, j142, j143, j144, j145, j146, j147] σ Q := by
  have hmin : (if (L : Int) < (a : Int) then (L : Int) else (a : Int)) = (a : Int) := by rw [if_neg (by omega)]
  have hS := strs_drop hw hL ha
  have hdl := Nat.le_trans (jn_drop ws a) hjb
  simp -implicitDefEqProofs (maxDischargeDepth := 15) only [↓reduceIte, Yr, Ys, Yt, Yu, Yv, Yw, Yx, Yy, Yz, Wa, Wb, Wc, Wd, We, Wf, Wg, Wh, Wi, Wj, Wk, Wl, Wm, Wn, Wo, Wp, Wq, Wr, Ws, Wt, Wu, opA, Wv, Ww, Wx, Wy, Wz, Va, Za, Zb, List.replicate, Zc, Zd, Ze, Vb, Vc, Vd, Ve, Vf, AV.cells, Vg, Vh, Vi, Vj, AState.set_next, AState.kill_next, Vk, Vl, Vm, Vn, Vo, Vp, Vq, Vr, Vs, Vt, partA, Zf, Zg, Zh, Zi, if_true, if_false, Nat.reduceAdd, Nat.reduceLeDiff, Nat.reduceSub, Zj, Nat.zero_le, Zk, Zl, Zm, Zn, Zo, Zp, Zq, Zr, Zs, Zt, binA, eqA, kEq, nilEq, fillA, putL, allOne, Zu, Zv, AV.one, Zw, Zx, Zy, and_self, and_true, true_and, lenA, firstA, EndOk, resultA, oneOf, Zz, Ya, Yb, Yc, Yd, Ye, reduceCtorEq, Yf, Yg, natOf, upTo, bMax, bHigh, bLow, boundsA, evO, Yh, Yi, againOk, Vu, Vv, Vw, Yj, Yk, eq_self, Yl, Ym, Yn, setPs, or_true, true_or, false_or, or_false, ne_eq, Yo, Vx, Vy, Yp, Yq, i_law41_DescribeOutline, c28_0, c28_1, c28_2, c28_3, c28_4, c28_5, c28_6, c28_7, c28_8, c28_9, c28_10, c28_11, c28_12, c28_13, c28_14, c28_15, c28_16, c28_17, c28_18, c28_19, c28_20, c28_21, c28_22, c28_23, c28_24, c28_26, c28_27, c28_28, c28_29, c28_30, c28_31, c28_32, c28_33, c28_34, c28_35, c28_36, c28_37, c28_38, c28_39, c28_40, c28_41, c28_42, c28_43, c28_44, c28_45, c28_46, c28_47, c28_48, c28_49, c28_50, c28_51, c28_25, minA, hmin, natOf_cast, Nat.mul_one, ha]
  refine RunV.to (sjoin_ok hS sp (by omega) (by omega)) ?_
  have q1 : (jn (ws.drop a) sp).length + 1 < 9223372036854775808 := by omega
  have q2 : (jn rs sp).length + 1 < 9223372036854775808 := by omega
  simp -implicitDefEqProofs (maxDischargeDepth := 15) only [↓reduceIte, Yr, Ys, Yt, Yu, Yv, Yw, Yx, Yy, Yz, Wa, Wb, Wc, Wd, We, Wf, Wg, Wh, Wi, Wj, Wk, Wl, Wm, Wn, Wo, Wp, Wq, Wr, Ws, Wt, Wu, opA, Wv, Ww, Wx, Wy, Wz, Va, Za, Zb, List.replicate, Zc, Zd, Ze, Vb, Vc, Vd, Ve, Vf, AV.cells, Vg, Vh, Vi, Vj, AState.set_next, AState.kill_next, Vk, Vl, Vm, Vn, Vo, Vp, Vq, Vr, Vs, Vt, partA, Zf, Zg, Zh, Zi, if_true, if_false, Nat.reduceAdd, Nat.reduceLeDiff, Nat.reduceSub, Zj, Nat.zero_le, Zk, Zl, Zm, Zn, Zo, Zp, Zq, Zr, Zs, Zt, binA, eqA, kEq, nilEq, fillA, putL, allOne, Zu, Zv, AV.one, Zw, Zx, Zy, and_self, and_true, true_and, lenA, firstA, EndOk, resultA, oneOf, Zz, Ya, Yb, Yc, Yd, Ye, reduceCtorEq, Yf, Yg, natOf, upTo, bMax, bHigh, bLow, boundsA, evO, Yh, Yi, againOk, Vu, Vv, Vw, Yj, Yk, eq_self, Yl, Ym, Yn, setPs, or_true, true_or, false_or, or_false, ne_eq, Yo, Vx, Vy, Yp, Yq, i_law41_DescribeOutline, c28_0, c28_1, c28_2, c28_3, c28_4, c28_5, c28_6, c28_7, c28_8, c28_9, c28_10, c28_11, c28_12, c28_13, c28_14, c28_15, c28_16, c28_17, c28_18, c28_19, c28_20, c28_21, c28_22, c28_23, c28_24, c28_26, c28_27, c28_28, c28_29, c28_30, c28_31, c28_32, c28_33, c28_34, c28_35, c28_36, c28_37, c28_38, c28_39, c28_40, c28_41, c28_42, c28_43, c28_44, c28_45, c28_46, c28_47, c28_48, c28_49, c28_50, c28_51, q1, q2]
  refine RunV.to (hasPrefix_ok _ _ _) ?_
  have hp' : (jn rs sp ++ [32]).isPrefixOf (jn (ws.drop a) sp ++ [32]) = true := hp
  rw [hp']
  simp -implicitDefEqProofs (maxDischargeDepth := 15) only [↓reduceIte, Yr, Ys, Yt, Yu, Yv, Yw, Yx, Yy, Yz, Wa, Wb, Wc, Wd, We, Wf, Wg, Wh, Wi, Wj, Wk, Wl, Wm, Wn, Wo, Wp, Wq, Wr, Ws, Wt, Wu, opA, Wv, Ww, Wx, Wy, Wz, Va, Za, Zb, List.replicate, Zc, Zd, Ze, Vb, Vc, Vd, Ve, Vf, AV.cells, Vg, Vh, Vi, Vj, AState.set_next, AState.kill_next, Vk, Vl, Vm, Vn, Vo, Vp, Vq, Vr, Vs, Vt, partA, Zf, Zg, Zh, Zi, if_true, if_false, Nat.reduceAdd, Nat.reduceLeDiff, Nat.reduceSub, Zj, Nat.zero_le, Zk, Zl, Zm, Zn, Zo, Zp, Zq, Zr, Zs, Zt, binA, eqA, kEq, nilEq, fillA, putL, allOne, Zu, Zv, AV.one, Zw, Zx, Zy, and_self, and_true, true_and, lenA, firstA, EndOk, resultA, oneOf, Zz, Ya, Yb, Yc, Yd, Ye, reduceCtorEq, Yf, Yg, natOf, upTo, bMax, bHigh, bLow, boundsA, evO, Yh, Yi, againOk, Vu, Vv, Vw, Yj, Yk, eq_self, Yl, Ym, Yn, setPs, or_true, true_or, false_or, or_false, ne_eq, Yo, Vx, Vy, Yp, Yq, i_law41_DescribeOutline, c28_0, c28_1, c28_2, c28_3, c28_4, c28_5, c28_6, c28_7, c28_8, c28_9, c28_10, c28_11, c28_12, c28_13, c28_14, c28_15, c28_16, c28_17, c28_18, c28_19, c28_20, c28_21, c28_22, c28_23, c28_24, c28_26, c28_27, c28_28, c28_29, c28_30, c28_31, c28_32, c28_33, c28_34, c28_35, c28_36, c28_37, c28_38, c28_39, c28_40, c28_41, c28_42, c28_43, c28_44, c28_45, c28_46, c28_47, c28_48, c28_49, c28_50, c28_51]
  refine RunV.to (split_ok hrs hrn hrb _) ?_
  have hc : wrapF .i64 ((a : Int) + (rs.length : Int)) = ((a + cntS (jn rs sp) : Nat) : Int) := by rw [cntS_jn rs hrs hrn, wrap_i64 (by have := jn_len (l := rs) (s := sp) (by simp); omega)]; omega
  simp -implicitDefEqProofs (maxDischargeDepth := 15) only [↓reduceIte, Yr, Ys, Yt, Yu, Yv, Yw, Yx, Yy, Yz, Wa, Wb, Wc, Wd, We, Wf, Wg, Wh, Wi, Wj, Wk, Wl, Wm, Wn, Wo, Wp, Wq, Wr, Ws, Wt, Wu, opA, Wv, Ww, Wx, Wy, Wz, Va, Za, Zb, List.replicate, Zc, Zd, Ze, Vb, Vc, Vd, Ve, Vf, AV.cells, Vg, Vh, Vi, Vj, AState.set_next, AState.kill_next, Vk, Vl, Vm, Vn, Vo, Vp, Vq, Vr, Vs, Vt, partA, Zf, Zg, Zh, Zi, if_true, if_false, Nat.reduceAdd, Nat.reduceLeDiff, Nat.reduceSub, Zj, Nat.zero_le, Zk, Zl, Zm, Zn, Zo, Zp, Zq, Zr, Zs, Zt, binA, eqA, kEq, nilEq, fillA, putL, allOne, Zu, Zv, AV.one, Zw, Zx, Zy, and_self, and_true, true_and, lenA, firstA, EndOk, resultA, oneOf, Zz, Ya, Yb, Yc, Yd, Ye, reduceCtorEq, Yf, Yg, natOf, upTo, bMax, bHigh, bLow, boundsA, evO, Yh, Yi, againOk, Vu, Vv, Vw, Yj, Yk, eq_self, Yl, Ym, Yn, setPs, or_true, true_or, false_or, or_false, ne_eq, Yo, Vx, Vy, Yp, Yq, i_law41_DescribeOutline, c28_0, c28_1, c28_2, c28_3, c28_4, c28_5, c28_6, c28_7, c28_8, c28_9, c28_10, c28_11, c28_12, c28_13, c28_14, c28_15, c28_16, c28_17, c28_18, c28_19, c28_20, c28_21, c28_22, c28_23, c28_24, c28_26, c28_27, c28_28, c28_29, c28_30, c28_31, c28_32, c28_33, c28_34, c28_35, c28_36, c28_37, c28_38, c28_39, c28_40, c28_41, c28_42, c28_43, c28_44, c28_45, c28_46, c28_47, c28_48, c28_49, c28_50, c28_51, hc]
  exact hQ _ _ _ _ _ _ _ _ _ _ _ _ _ _ _ _ _ _ _ _ _ _ _ _ _ _ _ _ _ _ _ _ _ _ _ _ _ _ _ _ _ _ _ _ _ _ _ _ _ _ _ _ _ _ _ _ _ _ _ _ _ _ _ _ _ _ _ _ _ _ _ _ _ _ _ _ _ _ _ _ _ _ _ _ _ _ _ _ _ _ _ _ _ _ _ _ _ _ _ _ _ _ _ _ _ _ _ _ _ _ _ _ _ _ _ _ _ _ _ _ _ _ _ _ _ _ _ _ _ _ _ _ _ _ _ _ _ _ _ _
end Go.Am
