/-
  A PART of the proof: DoW24.
-/
import Derived.Test.YtbndamlfgagecaaGreatDoorT07
import Derived.Test.YtbndamlfgagecaaGreatDoorT08
set_option linter.unusedSimpArgs false
set_option linter.unusedVariables false
namespace Go.Am
open Go.RowKit Go.Proofs Do
set_option maxRecDepth 100000
structure OLive (ts : List AV) (v3 v4 v8 v9 v10 v45 v46 v47 : AV) : Prop where
  len : ts.length = 148
  t3 : ts.getD 3 U = v3
  t4 : ts.getD 4 U = v4
  t8 : ts.getD 8 U = v8
  t9 : ts.getD 9 U = v9
  t10 : ts.getD 10 U = v10
  t45 : ts.getD 45 U = v45
  t46 : ts.getD 46 U = v46
  t47 : ts.getD 47 U = v47
theorem OLive.open {ts : List AV} {v3 v4 v8 v9 v10 v45 v46 v47 : AV} (h : OLive ts v3 v4 v8 v9 v10 v45 v46 v47) : ∃ a : Nat → AV, ts = [a 0, a 1, a 2, v3, v4, a 5, a 6, a 7, v8, v9, v10, a 11, a 12, a 13, a 14, a 15, a 16, a 17, a 18, a 19, a 20, a 21, a 22, a 23, a 24, a 25, a 26, a 27, a 28, a 29, a 30, a 31, a 32, a 33, a 34, a 35, a 36, a 37, a 38, a 39, a 40, a 41, a 42, a 43, a 44, v45, v46, v47, a 48, a 49, a 50, a 51, a 52, a 53, a 54, a 55, a 56, a 57, a 58, a 59, a 60, a 61, a 62, a 63, a 64, a 65, a 66, a 67, a 68, a 69, a 70, a 71, a 72, a 73, a 74, a 75, a 76, a 77, a 78, a 79, a 80, a 81, a 82, a 83, a 84, a 85, a 86, a 87, a 88, a 89, a 90, a 91, a 92, a 93, a 94, a 95, a 96, a 97, a 98, a 99, a 100, a 101, a 102, a 103, a 104, a 105, a 106, a 107, a 108, a 109, a 110, a 111, a 112, a 113, a 114, a 115, a 116, a 117, a 118, a 119, a 120, a 121, a 122, a 123, a 124, a 125, a 126, a 127, a 128, a 129, a 130, a 131, a 132, a 133, a 134, a 135, a 136, a 137, a 138, a 139, a 140, a 141, a 142, a 143, a 144, a 145, a 146, a 147] := by
  have h1 := list_range h.len
  refine ⟨fun i => ts.getD i U, ?_⟩
  rw [← h.t3, ← h.t4, ← h.t8, ← h.t9, ← h.t10, ← h.t45, ← h.t46, ← h.t47]
  exact h1
structure OInv (σ4 : AState) (il iw fp N L : Nat) (lines : List (Nat × Str)) (ws : List Str) (ts : List AV) (σ' : AState) (m k a : Nat) (lv : Int) : Prop where
  grow : Grow σ4 σ'
  km : k + m = N
  good : Do.Good cntS ws ws.length (lines.drop k) k a lv
  ab : a ≤ 2199023255552
  lvb : -1 ≤ lv ∧ lv < 48
  live : OLive ts (.ptr (some (fp, 0))) (.slice (some (il, 0)) N none 1) (.slice (some (iw, 0)) L (some L) 1) (.int .i64 a) (.int .i64 lv) (.slice (some (il, 0)) N none 1) (.int .i64 N) (.int .i64 k)
theorem at_le {ws : List Str} {k a : Nat} {r : Str} : a ≤ atOf ws k a r ∧ atOf ws k a r ≤ a + 1 := by unfold atOf; split <;> omega
theorem outline_round {σ4 : AState} {il iw fp N L : Nat} {lines : List (Nat × Str)} {ws : List Str} {m0 : Int} (hil : σ4.get il = some (.cells ((lines.map lineS).map .str) true)) (hiw : σ4.get iw = some (.cells (ws.map .str) true)) (h0 : σ4.get 0 = some (.cells [.int .i64 m0] false))
    (hN : lines.length = N) (hL : ws.length = L) (hNb : N ≤ 1099511627776) (hLb : L ≤ 1099511627776) (hjb : (jn ws sp).length ≤ 1099511627776)
    (hlines : ∀ p ∈ lines, p.1 < 48 ∧ p.2.length ≤ 1000000000 ∧ ∃ rs, rs ≠ [] ∧ Nices rs ∧ p.2 = jn rs sp) {Q : Ex → List AV → AState → Prop}
    {m : Nat} {ts : List AV} {σ' : AState} {k a : Nat} {lv : Int} (hI : OInv σ4 il iw fp N L lines ws ts σ' m k a lv) (hQ2 : ∀ ts, OLive ts (.ptr (some (fp, 0))) (.slice (some (il, 0)) N none 1) (.slice (some (iw, 0)) L (some L) 1) (.int .i64 a) (.int .i64 lv) (.slice (some (il, 0)) N none 1) (.int .i64 N) (.int .i64 k) → k = N → Q (.exit 0) ts σ') :
    wpC RR Tryz.prog c28_35 ts σ' (LoopK (fun ts σ m => ∃ k a lv, OInv σ4 il iw fp N L lines ws ts σ m k a lv) m Q) := by
  obtain ⟨hG, hkm, hg, hab, hlv, hLv⟩ := hI
  obtain ⟨v, rfl⟩ := hLv.open
  by_cases hlt : k < N
  · obtain ⟨p, hpk, hpm⟩ := get_lt (l := lines) (k := k) (by omega)
    obtain ⟨hn48, hrl, rs, hrs, hrn, hrj⟩ := hlines p hpm
    obtain ⟨n, r⟩ := p
    simp only at hn48 hrl hrj
    have hdk : lines.drop k = (n, r) :: lines.drop (k + 1) := by
      have hpk' : lines[k]'(by omega) = (n, r) := by rw [List.getElem?_eq_getElem (by omega)] at hpk; exact Option.some.inj hpk
      rw [List.drop_eq_getElem_cons (by omega), hpk']
    rw [hdk] at hg
    simp only [Do.Good] at hg
    obtain ⟨g1, g2, g3, g4, g5⟩ := hg
    have hW := hG.wf
    have hil' := hG.sub _ _ hil
    have hiw' := hG.sub _ _ hiw
    have h0' := hG.sub _ _ h0
    have hlk : ((lines.map lineS).map AV.str)[k]? = some (.str (lineS (n, r))) := by simp [hpk]
    have d1 : decide ((k : Int) < (N : Int)) = true := decide_eq_true (by omega)
    have e1 : (0 : Int) ≤ (k : Int) ∧ (k : Int) < (N : Int) := by omega
    simp -implicitDefEqProofs (maxDischargeDepth := 15) only [↓reduceIte, Yr, Ys, Yt, Yu, Yv, Yw, Yx, Yy, Yz, Wa, Wb, Wc, Wd, We, Wf, Wg, Wh, Wi, Wj, Wk, Wl, Wm, Wn, Wo, Wp, Wq, Wr, Ws, Wt, Wu, opA, Wv, Ww, Wx, Wy, Wz, Va, Za, Zb, List.replicate, Zc, Zd, Ze, Vb, Vc, Vd, Ve, Vf, AV.cells, Vg, Vh, Vi, Vj, AState.set_next, AState.kill_next, Vk, Vl, Vm, Vn, Vo, Vp, Vq, Vr, Vs, Vt, partA, Zf, Zg, Zh, Zi, if_true, if_false, Nat.reduceAdd, Nat.reduceLeDiff, Nat.reduceSub, Zj, Nat.zero_le, Zk, Zl, Zm, Zn, Zo, Zp, Zq, Zr, Zs, Zt, binA, eqA, kEq, nilEq, fillA, putL, allOne, Zu, Zv, AV.one, Zw, Zx, Zy, and_self, and_true, true_and, lenA, firstA, EndOk, resultA, oneOf, Zz, Ya, Yb, Yc, Yd, Ye, reduceCtorEq, Yf, Yg, natOf, upTo, bMax, bHigh, bLow, boundsA, evO, Yh, Yi, againOk, Vu, Vv, Vw, Yj, Yk, eq_self, Yl, Ym, Yn, setPs, or_true, true_or, false_or, or_false, ne_eq, Yo, Vx, Vy, Yp, Yq, i_law41_DescribeOutline, c28_0, c28_1, c28_2, c28_3, c28_4, c28_5, c28_6, c28_7, c28_8, c28_9, c28_10, c28_11, c28_12, c28_13, c28_14, c28_15, c28_16, c28_17, c28_18, c28_19, c28_20, c28_21, c28_22, c28_23, c28_24, c28_26, c28_27, c28_28, c28_29, c28_30, c28_31, c28_33, c28_34, c28_35, c28_36, c28_37, c28_38, c28_39, c28_40, c28_41, c28_42, c28_43, c28_44, c28_45, c28_46, c28_47, c28_48, c28_49, c28_50, c28_51, d1, e1, hil', hlk, Nat.mul_one]
    have hll : (lineS (n, r)).length < 4294967281 := by
      have := itoaS_len n
      simp only [lineS, List.length_append, List.length_cons, List.length_nil]
      omega
    refine RunV.to (cut_calls h0' _ _ hll) ?_
    rw [cut_line hn48]
    simp -implicitDefEqProofs (maxDischargeDepth := 15) only [↓reduceIte, Yr, Ys, Yt, Yu, Yv, Yw, Yx, Yy, Yz, Wa, Wb, Wc, Wd, We, Wf, Wg, Wh, Wi, Wj, Wk, Wl, Wm, Wn, Wo, Wp, Wq, Wr, Ws, Wt, Wu, opA, Wv, Ww, Wx, Wy, Wz, Va, Za, Zb, List.replicate, Zc, Zd, Ze, Vb, Vc, Vd, Ve, Vf, AV.cells, Vg, Vh, Vi, Vj, AState.set_next, AState.kill_next, Vk, Vl, Vm, Vn, Vo, Vp, Vq, Vr, Vs, Vt, partA, Zf, Zg, Zh, Zi, if_true, if_false, Nat.reduceAdd, Nat.reduceLeDiff, Nat.reduceSub, Zj, Nat.zero_le, Zk, Zl, Zm, Zn, Zo, Zp, Zq, Zr, Zs, Zt, binA, eqA, kEq, nilEq, fillA, putL, allOne, Zu, Zv, AV.one, Zw, Zx, Zy, and_self, and_true, true_and, lenA, firstA, EndOk, resultA, oneOf, Zz, Ya, Yb, Yc, Yd, Ye, reduceCtorEq, Yf, Yg, natOf, upTo, bMax, bHigh, bLow, boundsA, evO, Yh, Yi, againOk, Vu, Vv, Vw, Yj, Yk, eq_self, Yl, Ym, Yn, setPs, or_true, true_or, false_or, or_false, ne_eq, Yo, Vx, Vy, Yp, Yq, i_law41_DescribeOutline, c28_0, c28_1, c28_2, c28_3, c28_4, c28_5, c28_6, c28_7, c28_8, c28_9, c28_10, c28_11, c28_12, c28_13, c28_14, c28_15, c28_16, c28_17, c28_18, c28_19, c28_20, c28_21, c28_22, c28_23, c28_24, c28_26, c28_27, c28_28, c28_29, c28_30, c28_31, c28_33, c28_34, c28_35, c28_36, c28_37, c28_38, c28_39, c28_40, c28_41, c28_42, c28_43, c28_44, c28_45, c28_46, c28_47, c28_48, c28_49, c28_50, c28_51]
    refine RunV.to (trim_ok hn48 _) ?_
    simp -implicitDefEqProofs (maxDischargeDepth := 15) only [↓reduceIte, Yr, Ys, Yt, Yu, Yv, Yw, Yx, Yy, Yz, Wa, Wb, Wc, Wd, We, Wf, Wg, Wh, Wi, Wj, Wk, Wl, Wm, Wn, Wo, Wp, Wq, Wr, Ws, Wt, Wu, opA, Wv, Ww, Wx, Wy, Wz, Va, Za, Zb, List.replicate, Zc, Zd, Ze, Vb, Vc, Vd, Ve, Vf, AV.cells, Vg, Vh, Vi, Vj, AState.set_next, AState.kill_next, Vk, Vl, Vm, Vn, Vo, Vp, Vq, Vr, Vs, Vt, partA, Zf, Zg, Zh, Zi, if_true, if_false, Nat.reduceAdd, Nat.reduceLeDiff, Nat.reduceSub, Zj, Nat.zero_le, Zk, Zl, Zm, Zn, Zo, Zp, Zq, Zr, Zs, Zt, binA, eqA, kEq, nilEq, fillA, putL, allOne, Zu, Zv, AV.one, Zw, Zx, Zy, and_self, and_true, true_and, lenA, firstA, EndOk, resultA, oneOf, Zz, Ya, Yb, Yc, Yd, Ye, reduceCtorEq, Yf, Yg, natOf, upTo, bMax, bHigh, bLow, boundsA, evO, Yh, Yi, againOk, Vu, Vv, Vw, Yj, Yk, eq_self, Yl, Ym, Yn, setPs, or_true, true_or, false_or, or_false, ne_eq, Yo, Vx, Vy, Yp, Yq, i_law41_DescribeOutline, c28_0, c28_1, c28_2, c28_3, c28_4, c28_5, c28_6, c28_7, c28_8, c28_9, c28_10, c28_11, c28_12, c28_13, c28_14, c28_15, c28_16, c28_17, c28_18, c28_19, c28_20, c28_21, c28_22, c28_23, c28_24, c28_26, c28_27, c28_28, c28_29, c28_30, c28_31, c28_33, c28_34, c28_35, c28_36, c28_37, c28_38, c28_39, c28_40, c28_41, c28_42, c28_43, c28_44, c28_45, c28_46, c28_47, c28_48, c28_49, c28_50, c28_51]
    refine RunV.to (atoi_ok hn48 _) ?_
    simp -implicitDefEqProofs (maxDischargeDepth := 15) only [↓reduceIte, Yr, Ys, Yt, Yu, Yv, Yw, Yx, Yy, Yz, Wa, Wb, Wc, Wd, We, Wf, Wg, Wh, Wi, Wj, Wk, Wl, Wm, Wn, Wo, Wp, Wq, Wr, Ws, Wt, Wu, opA, Wv, Ww, Wx, Wy, Wz, Va, Za, Zb, List.replicate, Zc, Zd, Ze, Vb, Vc, Vd, Ve, Vf, AV.cells, Vg, Vh, Vi, Vj, AState.set_next, AState.kill_next, Vk, Vl, Vm, Vn, Vo, Vp, Vq, Vr, Vs, Vt, partA, Zf, Zg, Zh, Zi, if_true, if_false, Nat.reduceAdd, Nat.reduceLeDiff, Nat.reduceSub, Zj, Nat.zero_le, Zk, Zl, Zm, Zn, Zo, Zp, Zq, Zr, Zs, Zt, binA, eqA, kEq, nilEq, fillA, putL, allOne, Zu, Zv, AV.one, Zw, Zx, Zy, and_self, and_true, true_and, lenA, firstA, EndOk, resultA, oneOf, Zz, Ya, Yb, Yc, Yd, Ye, reduceCtorEq, Yf, Yg, natOf, upTo, bMax, bHigh, bLow, boundsA, evO, Yh, Yi, againOk, Vu, Vv, Vw, Yj, Yk, eq_self, Yl, Ym, Yn, setPs, or_true, true_or, false_or, or_false, ne_eq, Yo, Vx, Vy, Yp, Yq, i_law41_DescribeOutline, c28_0, c28_1, c28_2, c28_3, c28_4, c28_5, c28_6, c28_7, c28_8, c28_9, c28_10, c28_11, c28_12, c28_13, c28_14, c28_15, c28_16, c28_17, c28_18, c28_19, c28_20, c28_21, c28_22, c28_23, c28_24, c28_26, c28_27, c28_28, c28_29, c28_30, c28_31, c28_33, c28_34, c28_35, c28_36, c28_37, c28_38, c28_39, c28_40, c28_41, c28_42, c28_43, c28_44, c28_45, c28_46, c28_47, c28_48, c28_49, c28_50, c28_51]
    refine RunV.to (itoa_ok hn48 _) ?_
    have hi := itoaS_len n
    have q1 : (itoaS n).length + 1 + 1 + 1 + 1 + 1 + 1 < 9223372036854775808 := by omega
    have q1' : 6 + (itoaS n).length < 9223372036854775808 := by omega
    have q2 : (headS n == (108 :: 101 :: 118 :: 101 :: 108 :: 32 :: itoaS n)) = true := by rw [show headS n = (108 :: 101 :: 118 :: 101 :: 108 :: 32 :: itoaS n) from rfl]; exact beq_self_eq_true _
    have c1 : decide ((n : Int) < 0) = false := decide_eq_false (by omega)
    have w1 : wrapF .i64 (lv + 1) = lv + 1 := wrap_i64 (by omega)
    have c2 : decide ((n : Int) > lv + 1) = false := decide_eq_false (by omega)
    have c3 : (((n : Int) == 0) == ((k : Int) == 0)) = true := by
      have h1 : ((n : Int) == 0) = decide (n = 0) := by rw [Bool.eq_iff_iff]; simp
      have h2 : ((k : Int) == 0) = decide (k = 0) := by rw [Bool.eq_iff_iff]; simp
      rw [h1, h2, decide_eq_decide.2 g2]; exact beq_self_eq_true _
    have ha := @at_le ws k a r
    have hfin : ∀ (ts : List AV), OLive ts (.ptr (some (fp, 0))) (.slice (some (il, 0)) N none 1) (.slice (some (iw, 0)) L (some L) 1) (.int .i64 ((atOf ws k a r + cntS r : Nat) : Int)) (.int .i64 n) (.slice (some (il, 0)) N none 1) (.int .i64 N) (.int .i64 ((k + 1 : Nat) : Int)) →
        ∃ k a lv, OInv σ4 il iw fp N L lines ws ts (σ'.push (.cells (rs.map .str) true)) (m - 1) k a lv := fun ts hts => by
      have hcb : cntS r ≤ r.length + 1 := by unfold cntS; have := List.count_le_length (a := (32 : UInt8)) (l := r); omega
      exact ⟨k + 1, _, n, ⟨hG.push _, by omega, g5, by omega, by omega, hts⟩⟩
    have tail : ∀ (a' : Nat) (_ : a' = atOf ws k a r) (j0 j1 j2 j5 j6 j7 j11 j12 j13 j15 j16 j17 j18 j19 j20 j21 j22 j23 j24 j25 j26 j27 j28 j29 j30 j31 j32 j33 j34 j35 j36 j37 j38 j39 j40 j41 j42 j43 j44 j48 j49 j50 j51 j52 j53 j54 j55 j56 j57 j58 j59 j60 j61 j62 j63 j64 j65 j66 j67 j68 j69 j70 j71 j72 j73 j74 j75 j76 j77 j78 j79 j80 j81 j82 j83 j84 j85 j86 j87 j88 j89 j90 j91 j92 j93 j94 j95 j96 j97 j98 j99 j100 j101 j102 j103 j104 j105 j106 j107 j108 j109 j110 j111 j112 j113 j114 j115 j116 j117 j118 j119 j120 j121 j122 j123 j124 j125 j126 j127 j128 j129 j130 j131 j132 j133 j134 j135 j136 j137 j138 j139 j140 j141 j142 j143 j144 j145 j146 j147 : AV), wpC RR Tryz.prog c28_25 [j0, j1, j2, .ptr (some (fp, 0)), .slice (some (il, 0)) N none 1, j5, j6, j7, .slice (some (iw, 0)) L (some L) 1, .int .i64 a', .int .i64 n, j11, j12, j13, .str r, j15, j16, j17, j18, j19, j20, j21, j22, j23, j24, j25, j26, j27, j28, j29, j30, j31, j32, j33, j34, j35, j36, j37, j38, j39, j40, j41, j42, j43, j44, .slice (some (il, 0)) N none 1, .int .i64 N, .int .i64 k, j48, j49, j50, j51, j52, j53, j54, j55, j56, j57, j58, j59, j60, j61, j62, j63, j64, j65, j66, j67, j68, j69, j70, j71, j72, j73, j74, j75, j76, j77, j78, j79, j80, j81, j82, j83, j84, j85, j86, j87, j88, j89, j90, j91, j92, j93, j94, j95, j96, j97, j98, j99, j100, j101, j102, j103, j104, j105, j106, j107, j108, j109, j110, j111, j112, j113, j114, j115, j116, j117, j118, j119, j120, j121, j122, j123, j124, j125, j126, j127, j128, j129, j130, j131, j132, j133, j134, j135, j136, j137, j138, j139, j140, j141, j142, j143, j144, j145, j146, j147] σ'
        (BlockK 1 (SeqK RR Tryz.prog c28_32 (LoopK (fun ts σ m => ∃ k a lv, OInv σ4 il iw fp N L lines ws ts σ m k a lv) m Q))) := by
      intro a' ha'
      subst ha'
      iterate 139 intro _
      rw [hrj] at hrl g3 g4 hfin ⊢
      refine ol_tail hiw' hL hLb hjb (by omega) g3 hrs hrn (by omega) hW ?_
      iterate 140 intro _
      have wk : wrapF .i64 ((k : Int) + 1) = ((k + 1 : Nat) : Int) := by rw [wrap_i64 (by omega)]; rfl
      simp -implicitDefEqProofs (maxDischargeDepth := 15) only [↓reduceIte, Yr, Ys, Yt, Yu, Yv, Yw, Yx, Yy, Yz, Wa, Wb, Wc, Wd, We, Wf, Wg, Wh, Wi, Wj, Wk, Wl, Wm, Wn, Wo, Wp, Wq, Wr, Ws, Wt, Wu, opA, Wv, Ww, Wx, Wy, Wz, Va, Za, Zb, List.replicate, Zc, Zd, Ze, Vb, Vc, Vd, Ve, Vf, AV.cells, Vg, Vh, Vi, Vj, AState.set_next, AState.kill_next, Vk, Vl, Vm, Vn, Vo, Vp, Vq, Vr, Vs, Vt, partA, Zf, Zg, Zh, Zi, if_true, if_false, Nat.reduceAdd, Nat.reduceLeDiff, Nat.reduceSub, Zj, Nat.zero_le, Zk, Zl, Zm, Zn, Zo, Zp, Zq, Zr, Zs, Zt, binA, eqA, kEq, nilEq, fillA, putL, allOne, Zu, Zv, AV.one, Zw, Zx, Zy, and_self, and_true, true_and, lenA, firstA, EndOk, resultA, oneOf, Zz, Ya, Yb, Yc, Yd, Ye, reduceCtorEq, Yf, Yg, natOf, upTo, bMax, bHigh, bLow, boundsA, evO, Yh, Yi, againOk, Vu, Vv, Vw, Yj, Yk, eq_self, Yl, Ym, Yn, setPs, or_true, true_or, false_or, or_false, ne_eq, Yo, Vx, Vy, Yp, Yq, i_law41_DescribeOutline, c28_0, c28_1, c28_2, c28_3, c28_4, c28_5, c28_6, c28_7, c28_8, c28_9, c28_10, c28_11, c28_12, c28_13, c28_14, c28_15, c28_16, c28_17, c28_18, c28_19, c28_20, c28_21, c28_22, c28_23, c28_24, c28_26, c28_27, c28_28, c28_29, c28_30, c28_31, c28_32, c28_33, c28_34, c28_35, c28_36, c28_37, c28_38, c28_39, c28_40, c28_41, c28_42, c28_43, c28_44, c28_45, c28_46, c28_47, c28_48, c28_49, c28_50, c28_51, wk, lk_n]
      exact ⟨m - 1, by omega, hfin _ ⟨rfl, rfl, rfl, rfl, rfl, rfl, rfl, rfl, rfl⟩⟩
    by_cases hk0 : k = 0
    · have c4 : decide ((k : Int) > 0) = false := decide_eq_false (by omega)
      have hat : a = atOf ws k a r := by unfold atOf; rw [if_neg (by omega)]
      simp -implicitDefEqProofs (maxDischargeDepth := 15) only [↓reduceIte, Yr, Ys, Yt, Yu, Yv, Yw, Yx, Yy, Yz, Wa, Wb, Wc, Wd, We, Wf, Wg, Wh, Wi, Wj, Wk, Wl, Wm, Wn, Wo, Wp, Wq, Wr, Ws, Wt, Wu, opA, Wv, Ww, Wx, Wy, Wz, Va, Za, Zb, List.replicate, Zc, Zd, Ze, Vb, Vc, Vd, Ve, Vf, AV.cells, Vg, Vh, Vi, Vj, AState.set_next, AState.kill_next, Vk, Vl, Vm, Vn, Vo, Vp, Vq, Vr, Vs, Vt, partA, Zf, Zg, Zh, Zi, if_true, if_false, Nat.reduceAdd, Nat.reduceLeDiff, Nat.reduceSub, Zj, Nat.zero_le, Zk, Zl, Zm, Zn, Zo, Zp, Zq, Zr, Zs, Zt, binA, eqA, kEq, nilEq, fillA, putL, allOne, Zu, Zv, AV.one, Zw, Zx, Zy, and_self, and_true, true_and, lenA, firstA, EndOk, resultA, oneOf, Zz, Ya, Yb, Yc, Yd, Ye, reduceCtorEq, Yf, Yg, natOf, upTo, bMax, bHigh, bLow, boundsA, evO, Yh, Yi, againOk, Vu, Vv, Vw, Yj, Yk, eq_self, Yl, Ym, Yn, setPs, or_true, true_or, false_or, or_false, ne_eq, Yo, Vx, Vy, Yp, Yq, i_law41_DescribeOutline, c28_0, c28_1, c28_2, c28_3, c28_4, c28_5, c28_6, c28_7, c28_8, c28_9, c28_10, c28_11, c28_12, c28_13, c28_14, c28_15, c28_16, c28_17, c28_18, c28_19, c28_20, c28_21, c28_22, c28_23, c28_24, c28_26, c28_27, c28_28, c28_29, c28_30, c28_31, c28_33, c28_34, c28_35, c28_36, c28_37, c28_38, c28_39, c28_40, c28_41, c28_42, c28_43, c28_44, c28_45, c28_46, c28_47, c28_48, c28_49, c28_50, c28_51, q1, q1', q2, c1, c2, c3, w1, c4]
      exact tail a hat _ _ _ _ _ _ _ _ _ _ _ _ _ _ _ _ _ _ _ _ _ _ _ _ _ _ _ _ _ _ _ _ _ _ _ _ _ _ _ _ _ _ _ _ _ _ _ _ _ _ _ _ _ _ _ _ _ _ _ _ _ _ _ _ _ _ _ _ _ _ _ _ _ _ _ _ _ _ _ _ _ _ _ _ _ _ _ _ _ _ _ _ _ _ _ _ _ _ _ _ _ _ _ _ _ _ _ _ _ _ _ _ _ _ _ _ _ _ _ _ _ _ _ _ _ _ _ _ _ _ _ _ _ _ _ _ _ _ _
    · have c4 : decide ((k : Int) > 0) = true := decide_eq_true (by omega)
      by_cases haL : a < L
      · have c5 : decide ((a : Int) < (L : Int)) = true := decide_eq_true (by omega)
        have haL' : a ≤ L := by omega
        simp -implicitDefEqProofs (maxDischargeDepth := 15) only [↓reduceIte, Yr, Ys, Yt, Yu, Yv, Yw, Yx, Yy, Yz, Wa, Wb, Wc, Wd, We, Wf, Wg, Wh, Wi, Wj, Wk, Wl, Wm, Wn, Wo, Wp, Wq, Wr, Ws, Wt, Wu, opA, Wv, Ww, Wx, Wy, Wz, Va, Za, Zb, List.replicate, Zc, Zd, Ze, Vb, Vc, Vd, Ve, Vf, AV.cells, Vg, Vh, Vi, Vj, AState.set_next, AState.kill_next, Vk, Vl, Vm, Vn, Vo, Vp, Vq, Vr, Vs, Vt, partA, Zf, Zg, Zh, Zi, if_true, if_false, Nat.reduceAdd, Nat.reduceLeDiff, Nat.reduceSub, Zj, Nat.zero_le, Zk, Zl, Zm, Zn, Zo, Zp, Zq, Zr, Zs, Zt, binA, eqA, kEq, nilEq, fillA, putL, allOne, Zu, Zv, AV.one, Zw, Zx, Zy, and_self, and_true, true_and, lenA, firstA, EndOk, resultA, oneOf, Zz, Ya, Yb, Yc, Yd, Ye, reduceCtorEq, Yf, Yg, natOf, upTo, bMax, bHigh, bLow, boundsA, evO, Yh, Yi, againOk, Vu, Vv, Vw, Yj, Yk, eq_self, Yl, Ym, Yn, setPs, or_true, true_or, false_or, or_false, ne_eq, Yo, Vx, Vy, Yp, Yq, i_law41_DescribeOutline, c28_0, c28_1, c28_2, c28_3, c28_4, c28_5, c28_6, c28_7, c28_8, c28_9, c28_10, c28_11, c28_12, c28_13, c28_14, c28_15, c28_16, c28_17, c28_18, c28_19, c28_20, c28_21, c28_22, c28_23, c28_24, c28_26, c28_27, c28_28, c28_29, c28_30, c28_31, c28_33, c28_34, c28_35, c28_36, c28_37, c28_38, c28_39, c28_40, c28_41, c28_42, c28_43, c28_44, c28_45, c28_46, c28_47, c28_48, c28_49, c28_50, c28_51, q1, q1', q2, c1, c2, c3, w1, c4, c5, natOf_cast, Nat.mul_one, haL']
        refine RunV.to (sjoin_ok (strs_drop hiw' hL haL') sp (by have := jn_drop ws a; omega) (by omega)) ?_
        have q3 : (jn (ws.drop a) sp).length + 1 < 9223372036854775808 := by have := jn_drop ws a; omega
        have q4 : r.length + 1 < 9223372036854775808 := by omega
        simp -implicitDefEqProofs (maxDischargeDepth := 15) only [↓reduceIte, Yr, Ys, Yt, Yu, Yv, Yw, Yx, Yy, Yz, Wa, Wb, Wc, Wd, We, Wf, Wg, Wh, Wi, Wj, Wk, Wl, Wm, Wn, Wo, Wp, Wq, Wr, Ws, Wt, Wu, opA, Wv, Ww, Wx, Wy, Wz, Va, Za, Zb, List.replicate, Zc, Zd, Ze, Vb, Vc, Vd, Ve, Vf, AV.cells, Vg, Vh, Vi, Vj, AState.set_next, AState.kill_next, Vk, Vl, Vm, Vn, Vo, Vp, Vq, Vr, Vs, Vt, partA, Zf, Zg, Zh, Zi, if_true, if_false, Nat.reduceAdd, Nat.reduceLeDiff, Nat.reduceSub, Zj, Nat.zero_le, Zk, Zl, Zm, Zn, Zo, Zp, Zq, Zr, Zs, Zt, binA, eqA, kEq, nilEq, fillA, putL, allOne, Zu, Zv, AV.one, Zw, Zx, Zy, and_self, and_true, true_and, lenA, firstA, EndOk, resultA, oneOf, Zz, Ya, Yb, Yc, Yd, Ye, reduceCtorEq, Yf, Yg, natOf, upTo, bMax, bHigh, bLow, boundsA, evO, Yh, Yi, againOk, Vu, Vv, Vw, Yj, Yk, eq_self, Yl, Ym, Yn, setPs, or_true, true_or, false_or, or_false, ne_eq, Yo, Vx, Vy, Yp, Yq, i_law41_DescribeOutline, c28_0, c28_1, c28_2, c28_3, c28_4, c28_5, c28_6, c28_7, c28_8, c28_9, c28_10, c28_11, c28_12, c28_13, c28_14, c28_15, c28_16, c28_17, c28_18, c28_19, c28_20, c28_21, c28_22, c28_23, c28_24, c28_26, c28_27, c28_28, c28_29, c28_30, c28_31, c28_33, c28_34, c28_35, c28_36, c28_37, c28_38, c28_39, c28_40, c28_41, c28_42, c28_43, c28_44, c28_45, c28_46, c28_47, c28_48, c28_49, c28_50, c28_51, q3, q4]
        refine RunV.to (hasPrefix_ok _ _ _) ?_
        have hpp : (r ++ [32]).isPrefixOf (jn (ws.drop a) sp ++ [32]) = pre ws a r := rfl
        rw [hpp]
        cases hpb : pre ws a r
        · have hat : a + 1 = atOf ws k a r := by unfold atOf; rw [if_pos ⟨by omega, by omega, hpb⟩]
          have wa : wrapF .i64 ((a : Int) + 1) = ((a + 1 : Nat) : Int) := by rw [wrap_i64 (by omega)]; rfl
          simp -implicitDefEqProofs (maxDischargeDepth := 15) only [↓reduceIte, Yr, Ys, Yt, Yu, Yv, Yw, Yx, Yy, Yz, Wa, Wb, Wc, Wd, We, Wf, Wg, Wh, Wi, Wj, Wk, Wl, Wm, Wn, Wo, Wp, Wq, Wr, Ws, Wt, Wu, opA, Wv, Ww, Wx, Wy, Wz, Va, Za, Zb, List.replicate, Zc, Zd, Ze, Vb, Vc, Vd, Ve, Vf, AV.cells, Vg, Vh, Vi, Vj, AState.set_next, AState.kill_next, Vk, Vl, Vm, Vn, Vo, Vp, Vq, Vr, Vs, Vt, partA, Zf, Zg, Zh, Zi, if_true, if_false, Nat.reduceAdd, Nat.reduceLeDiff, Nat.reduceSub, Zj, Nat.zero_le, Zk, Zl, Zm, Zn, Zo, Zp, Zq, Zr, Zs, Zt, binA, eqA, kEq, nilEq, fillA, putL, allOne, Zu, Zv, AV.one, Zw, Zx, Zy, and_self, and_true, true_and, lenA, firstA, EndOk, resultA, oneOf, Zz, Ya, Yb, Yc, Yd, Ye, reduceCtorEq, Yf, Yg, natOf, upTo, bMax, bHigh, bLow, boundsA, evO, Yh, Yi, againOk, Vu, Vv, Vw, Yj, Yk, eq_self, Yl, Ym, Yn, setPs, or_true, true_or, false_or, or_false, ne_eq, Yo, Vx, Vy, Yp, Yq, i_law41_DescribeOutline, c28_0, c28_1, c28_2, c28_3, c28_4, c28_5, c28_6, c28_7, c28_8, c28_9, c28_10, c28_11, c28_12, c28_13, c28_14, c28_15, c28_16, c28_17, c28_18, c28_19, c28_20, c28_21, c28_22, c28_23, c28_24, c28_26, c28_27, c28_28, c28_29, c28_30, c28_31, c28_33, c28_34, c28_35, c28_36, c28_37, c28_38, c28_39, c28_40, c28_41, c28_42, c28_43, c28_44, c28_45, c28_46, c28_47, c28_48, c28_49, c28_50, c28_51, wa]
          exact tail _ hat _ _ _ _ _ _ _ _ _ _ _ _ _ _ _ _ _ _ _ _ _ _ _ _ _ _ _ _ _ _ _ _ _ _ _ _ _ _ _ _ _ _ _ _ _ _ _ _ _ _ _ _ _ _ _ _ _ _ _ _ _ _ _ _ _ _ _ _ _ _ _ _ _ _ _ _ _ _ _ _ _ _ _ _ _ _ _ _ _ _ _ _ _ _ _ _ _ _ _ _ _ _ _ _ _ _ _ _ _ _ _ _ _ _ _ _ _ _ _ _ _ _ _ _ _ _ _ _ _ _ _ _ _ _ _ _ _ _ _
        · have hat : a = atOf ws k a r := by unfold atOf; rw [if_neg (by rw [hpb]; simp)]
          simp -implicitDefEqProofs (maxDischargeDepth := 15) only [↓reduceIte, Yr, Ys, Yt, Yu, Yv, Yw, Yx, Yy, Yz, Wa, Wb, Wc, Wd, We, Wf, Wg, Wh, Wi, Wj, Wk, Wl, Wm, Wn, Wo, Wp, Wq, Wr, Ws, Wt, Wu, opA, Wv, Ww, Wx, Wy, Wz, Va, Za, Zb, List.replicate, Zc, Zd, Ze, Vb, Vc, Vd, Ve, Vf, AV.cells, Vg, Vh, Vi, Vj, AState.set_next, AState.kill_next, Vk, Vl, Vm, Vn, Vo, Vp, Vq, Vr, Vs, Vt, partA, Zf, Zg, Zh, Zi, if_true, if_false, Nat.reduceAdd, Nat.reduceLeDiff, Nat.reduceSub, Zj, Nat.zero_le, Zk, Zl, Zm, Zn, Zo, Zp, Zq, Zr, Zs, Zt, binA, eqA, kEq, nilEq, fillA, putL, allOne, Zu, Zv, AV.one, Zw, Zx, Zy, and_self, and_true, true_and, lenA, firstA, EndOk, resultA, oneOf, Zz, Ya, Yb, Yc, Yd, Ye, reduceCtorEq, Yf, Yg, natOf, upTo, bMax, bHigh, bLow, boundsA, evO, Yh, Yi, againOk, Vu, Vv, Vw, Yj, Yk, eq_self, Yl, Ym, Yn, setPs, or_true, true_or, false_or, or_false, ne_eq, Yo, Vx, Vy, Yp, Yq, i_law41_DescribeOutline, c28_0, c28_1, c28_2, c28_3, c28_4, c28_5, c28_6, c28_7, c28_8, c28_9, c28_10, c28_11, c28_12, c28_13, c28_14, c28_15, c28_16, c28_17, c28_18, c28_19, c28_20, c28_21, c28_22, c28_23, c28_24, c28_26, c28_27, c28_28, c28_29, c28_30, c28_31, c28_33, c28_34, c28_35, c28_36, c28_37, c28_38, c28_39, c28_40, c28_41, c28_42, c28_43, c28_44, c28_45, c28_46, c28_47, c28_48, c28_49, c28_50, c28_51]
          exact tail _ hat _ _ _ _ _ _ _ _ _ _ _ _ _ _ _ _ _ _ _ _ _ _ _ _ _ _ _ _ _ _ _ _ _ _ _ _ _ _ _ _ _ _ _ _ _ _ _ _ _ _ _ _ _ _ _ _ _ _ _ _ _ _ _ _ _ _ _ _ _ _ _ _ _ _ _ _ _ _ _ _ _ _ _ _ _ _ _ _ _ _ _ _ _ _ _ _ _ _ _ _ _ _ _ _ _ _ _ _ _ _ _ _ _ _ _ _ _ _ _ _ _ _ _ _ _ _ _ _ _ _ _ _ _ _ _ _ _ _ _
      · have c5 : decide ((a : Int) < (L : Int)) = false := decide_eq_false (by omega)
        have hat : a = atOf ws k a r := by unfold atOf; rw [if_neg (by omega)]
        simp -implicitDefEqProofs (maxDischargeDepth := 15) only [↓reduceIte, Yr, Ys, Yt, Yu, Yv, Yw, Yx, Yy, Yz, Wa, Wb, Wc, Wd, We, Wf, Wg, Wh, Wi, Wj, Wk, Wl, Wm, Wn, Wo, Wp, Wq, Wr, Ws, Wt, Wu, opA, Wv, Ww, Wx, Wy, Wz, Va, Za, Zb, List.replicate, Zc, Zd, Ze, Vb, Vc, Vd, Ve, Vf, AV.cells, Vg, Vh, Vi, Vj, AState.set_next, AState.kill_next, Vk, Vl, Vm, Vn, Vo, Vp, Vq, Vr, Vs, Vt, partA, Zf, Zg, Zh, Zi, if_true, if_false, Nat.reduceAdd, Nat.reduceLeDiff, Nat.reduceSub, Zj, Nat.zero_le, Zk, Zl, Zm, Zn, Zo, Zp, Zq, Zr, Zs, Zt, binA, eqA, kEq, nilEq, fillA, putL, allOne, Zu, Zv, AV.one, Zw, Zx, Zy, and_self, and_true, true_and, lenA, firstA, EndOk, resultA, oneOf, Zz, Ya, Yb, Yc, Yd, Ye, reduceCtorEq, Yf, Yg, natOf, upTo, bMax, bHigh, bLow, boundsA, evO, Yh, Yi, againOk, Vu, Vv, Vw, Yj, Yk, eq_self, Yl, Ym, Yn, setPs, or_true, true_or, false_or, or_false, ne_eq, Yo, Vx, Vy, Yp, Yq, i_law41_DescribeOutline, c28_0, c28_1, c28_2, c28_3, c28_4, c28_5, c28_6, c28_7, c28_8, c28_9, c28_10, c28_11, c28_12, c28_13, c28_14, c28_15, c28_16, c28_17, c28_18, c28_19, c28_20, c28_21, c28_22, c28_23, c28_24, c28_26, c28_27, c28_28, c28_29, c28_30, c28_31, c28_33, c28_34, c28_35, c28_36, c28_37, c28_38, c28_39, c28_40, c28_41, c28_42, c28_43, c28_44, c28_45, c28_46, c28_47, c28_48, c28_49, c28_50, c28_51, q1, q1', q2, c1, c2, c3, w1, c4, c5]
        exact tail a hat _ _ _ _ _ _ _ _ _ _ _ _ _ _ _ _ _ _ _ _ _ _ _ _ _ _ _ _ _ _ _ _ _ _ _ _ _ _ _ _ _ _ _ _ _ _ _ _ _ _ _ _ _ _ _ _ _ _ _ _ _ _ _ _ _ _ _ _ _ _ _ _ _ _ _ _ _ _ _ _ _ _ _ _ _ _ _ _ _ _ _ _ _ _ _ _ _ _ _ _ _ _ _ _ _ _ _ _ _ _ _ _ _ _ _ _ _ _ _ _ _ _ _ _ _ _ _ _ _ _ _ _ _ _ _ _ _ _ _
  · have d1 : decide ((k : Int) < (N : Int)) = false := decide_eq_false (by omega)
    simp -implicitDefEqProofs (maxDischargeDepth := 15) only [↓reduceIte, Yr, Ys, Yt, Yu, Yv, Yw, Yx, Yy, Yz, Wa, Wb, Wc, Wd, We, Wf, Wg, Wh, Wi, Wj, Wk, Wl, Wm, Wn, Wo, Wp, Wq, Wr, Ws, Wt, Wu, opA, Wv, Ww, Wx, Wy, Wz, Va, Za, Zb, List.replicate, Zc, Zd, Ze, Vb, Vc, Vd, Ve, Vf, AV.cells, Vg, Vh, Vi, Vj, AState.set_next, AState.kill_next, Vk, Vl, Vm, Vn, Vo, Vp, Vq, Vr, Vs, Vt, partA, Zf, Zg, Zh, Zi, if_true, if_false, Nat.reduceAdd, Nat.reduceLeDiff, Nat.reduceSub, Zj, Nat.zero_le, Zk, Zl, Zm, Zn, Zo, Zp, Zq, Zr, Zs, Zt, binA, eqA, kEq, nilEq, fillA, putL, allOne, Zu, Zv, AV.one, Zw, Zx, Zy, and_self, and_true, true_and, lenA, firstA, EndOk, resultA, oneOf, Zz, Ya, Yb, Yc, Yd, Ye, reduceCtorEq, Yf, Yg, natOf, upTo, bMax, bHigh, bLow, boundsA, evO, Yh, Yi, againOk, Vu, Vv, Vw, Yj, Yk, eq_self, Yl, Ym, Yn, setPs, or_true, true_or, false_or, or_false, ne_eq, Yo, Vx, Vy, Yp, Yq, i_law41_DescribeOutline, c28_0, c28_1, c28_2, c28_3, c28_4, c28_5, c28_6, c28_7, c28_8, c28_9, c28_10, c28_11, c28_12, c28_13, c28_14, c28_15, c28_16, c28_17, c28_18, c28_19, c28_20, c28_21, c28_22, c28_23, c28_24, c28_26, c28_27, c28_28, c28_29, c28_30, c28_31, c28_32, c28_33, c28_34, c28_35, c28_36, c28_37, c28_38, c28_39, c28_40, c28_41, c28_42, c28_43, c28_44, c28_45, c28_46, c28_47, c28_48, c28_49, c28_50, c28_51, d1, lk_e]
    exact hQ2 _ ⟨rfl, rfl, rfl, rfl, rfl, rfl, rfl, rfl, rfl⟩ (by omega)
mutual
theorem sane_of_tiny : ∀ f : F, f.tiny → f.nodes ≤ 1000000 → f.sane
  | .mk op n ar l, h, hn => by
    simp only [F.tiny] at h
    simp only [F.nodes] at hn
    simp only [F.sane]
    have hl : ∀ (m : Nat) (l : List T), T.cnts l ≤ m → T.tinys l → T.lens l ≤ T.cnts l := by
      intro m
      induction m with
      | zero =>
        intro l h _
        cases l with
        | nil => simp [T.lens, T.cnts]
        | cons a r => cases a; simp only [T.cnts, T.cnt] at h; omega
      | succ m ih =>
        intro l h ht
        cases l with
        | nil => simp [T.lens, T.cnts]
        | cons a r =>
          obtain ⟨v, nm, ar2⟩ := a
          simp only [T.cnts, T.cnt] at h
          simp only [T.tinys, T.tiny] at ht
          have h1 := ih ar2 (by omega) ht.1.2
          have h2 := ih r (by omega) ht.2
          have h3 := ht.1.1
          simp only [T.lens, T.len, T.cnts, T.cnt]; omega
    have := hl _ ar (Nat.le_refl _) h.2.2.1
    exact ⟨h.1, by omega, by omega, sanes_of_tiny l h.2.2.2 (by omega)⟩
theorem sanes_of_tiny : ∀ l : List F, F.tinys l → F.nodess l ≤ 1000000 → F.sanes l
  | [], _, _ => trivial
  | f :: r, h, hn => by
    simp only [F.tinys] at h
    simp only [F.nodess] at hn
    exact ⟨sane_of_tiny f h.1 (by omega), sanes_of_tiny r h.2 (by omega)⟩
end
theorem wrap00 : wrapF .i64 ((0 : Int) + 0) = 0 := rfl
theorem outline_law {σ : AState} {o : Option (Nat × Nat)} {n : Nat} {c : Option Nat} {z : Nat} {l : List Nat} {m0 : Int} (hB : Bys σ.get o n z l) (hx : ∀ x ∈ l, x < 256) (h0 : σ.get 0 = some (.cells [.int .i64 m0] false)) :
    RunF RR Tryz.prog n_law41_DescribeOutline [.slice o n c z] σ (fun u _ => u = .bool true) := by
  refine RunV.wf fun hW => ?_
  refine runF_intro hmx rf_law41_DescribeOutline ?_
  simp -implicitDefEqProofs (maxDischargeDepth := 15) only [↓reduceIte, Yr, Ys, Yt, Yu, Yv, Yw, Yx, Yy, Yz, Wa, Wb, Wc, Wd, We, Wf, Wg, Wh, Wi, Wj, Wk, Wl, Wm, Wn, Wo, Wp, Wq, Wr, Ws, Wt, Wu, opA, Wv, Ww, Wx, Wy, Wz, Va, Za, Zb, List.replicate, Zc, Zd, Ze, Vb, Vc, Vd, Ve, Vf, AV.cells, Vg, Vh, Vi, Vj, AState.set_next, AState.kill_next, Vk, Vl, Vm, Vn, Vo, Vp, Vq, Vr, Vs, Vt, partA, Zf, Zg, Zh, Zi, if_true, if_false, Nat.reduceAdd, Nat.reduceLeDiff, Nat.reduceSub, Zj, Nat.zero_le, Zk, Zl, Zm, Zn, Zo, Zp, Zq, Zr, Zs, Zt, binA, eqA, kEq, nilEq, fillA, putL, allOne, Zu, Zv, AV.one, Zw, Zx, Zy, and_self, and_true, true_and, lenA, firstA, EndOk, resultA, oneOf, Zz, Ya, Yb, Yc, Yd, Ye, reduceCtorEq, Yf, Yg, natOf, upTo, bMax, bHigh, bLow, boundsA, evO, Yh, Yi, againOk, Vu, Vv, Vw, Yj, Yk, eq_self, Yl, Ym, Yn, setPs, or_true, true_or, false_or, or_false, ne_eq, Yo, Vx, Vy, Yp, Yq, i_law41_DescribeOutline, c28_0, c28_1, c28_2, c28_3, c28_4, c28_5, c28_6, c28_7, c28_8, c28_9, c28_10, c28_11, c28_12, c28_13, c28_14, c28_15, c28_16, c28_17, c28_18, c28_19, c28_20, c28_21, c28_22, c28_23, c28_24, c28_25, c28_26, c28_27, c28_28, c28_29, c28_30, c28_31, c28_32, c28_33, c28_34, c28_35, c28_37, c28_38, c28_39, c28_40, c28_41, c28_42, c28_43, c28_44, c28_45, c28_46, c28_47, c28_48, c28_49, c28_50, c28_51]
  refine RunV.to (awake_ok _) ?_
  simp -implicitDefEqProofs (maxDischargeDepth := 15) only [↓reduceIte, Yr, Ys, Yt, Yu, Yv, Yw, Yx, Yy, Yz, Wa, Wb, Wc, Wd, We, Wf, Wg, Wh, Wi, Wj, Wk, Wl, Wm, Wn, Wo, Wp, Wq, Wr, Ws, Wt, Wu, opA, Wv, Ww, Wx, Wy, Wz, Va, Za, Zb, List.replicate, Zc, Zd, Ze, Vb, Vc, Vd, Ve, Vf, AV.cells, Vg, Vh, Vi, Vj, AState.set_next, AState.kill_next, Vk, Vl, Vm, Vn, Vo, Vp, Vq, Vr, Vs, Vt, partA, Zf, Zg, Zh, Zi, if_true, if_false, Nat.reduceAdd, Nat.reduceLeDiff, Nat.reduceSub, Zj, Nat.zero_le, Zk, Zl, Zm, Zn, Zo, Zp, Zq, Zr, Zs, Zt, binA, eqA, kEq, nilEq, fillA, putL, allOne, Zu, Zv, AV.one, Zw, Zx, Zy, and_self, and_true, true_and, lenA, firstA, EndOk, resultA, oneOf, Zz, Ya, Yb, Yc, Yd, Ye, reduceCtorEq, Yf, Yg, natOf, upTo, bMax, bHigh, bLow, boundsA, evO, Yh, Yi, againOk, Vu, Vv, Vw, Yj, Yk, eq_self, Yl, Ym, Yn, setPs, or_true, true_or, false_or, or_false, ne_eq, Yo, Vx, Vy, Yp, Yq, i_law41_DescribeOutline, c28_0, c28_1, c28_2, c28_3, c28_4, c28_5, c28_6, c28_7, c28_8, c28_9, c28_10, c28_11, c28_12, c28_13, c28_14, c28_15, c28_16, c28_17, c28_18, c28_19, c28_20, c28_21, c28_22, c28_23, c28_24, c28_25, c28_26, c28_27, c28_28, c28_29, c28_30, c28_31, c28_32, c28_33, c28_34, c28_35, c28_37, c28_38, c28_39, c28_40, c28_41, c28_42, c28_43, c28_44, c28_45, c28_46, c28_47, c28_48, c28_49, c28_50, c28_51]
  refine (built_ok hB hx).mono ?_
  rintro u σ1 ⟨xs, rfl, hD, hG1⟩
  have hr := built_right l
  have ht := built_tiny l
  have hok := built_ok' l
  have hsz := built_sizes l
  generalize built l = f at *
  have hs := sane_of_tiny f ht (by omega)
  have hH : Heads 281474976000000 (f.outl 0) := fun p hp => by have := (F.outl_heads f 0 ht p hp).1; omega
  have htx := F.txt_len f ht
  have htb : (jn f.ws sp).length ≤ 16000 := by rw [← F.txt_ws f hok]; omega
  have hwl := jn_len (l := f.ws) (s := sp) (by simp)
  have hol := outl_len f 0
  have hpos : 1 ≤ (f.outl 0).length := by obtain ⟨op, nm, ar, l⟩ := f; simp [F.outl]
  obtain ⟨fo, fn, fa, fl, ef⟩ := form_is f
  have hD0 := hD
  rw [ef] at hD
  obtain ⟨o1, c1, z1, o2, c2, z2, rfl, _, _⟩ := F.cells hD
  have hW1 := hG1.wf
  simp -implicitDefEqProofs (maxDischargeDepth := 15) only [↓reduceIte, Yr, Ys, Yt, Yu, Yv, Yw, Yx, Yy, Yz, Wa, Wb, Wc, Wd, We, Wf, Wg, Wh, Wi, Wj, Wk, Wl, Wm, Wn, Wo, Wp, Wq, Wr, Ws, Wt, Wu, opA, Wv, Ww, Wx, Wy, Wz, Va, Za, Zb, List.replicate, Zc, Zd, Ze, Vb, Vc, Vd, Ve, Vf, AV.cells, Vg, Vh, Vi, Vj, AState.set_next, AState.kill_next, Vk, Vl, Vm, Vn, Vo, Vp, Vq, Vr, Vs, Vt, partA, Zf, Zg, Zh, Zi, if_true, if_false, Nat.reduceAdd, Nat.reduceLeDiff, Nat.reduceSub, Zj, Nat.zero_le, Zk, Zl, Zm, Zn, Zo, Zp, Zq, Zr, Zs, Zt, binA, eqA, kEq, nilEq, fillA, putL, allOne, Zu, Zv, AV.one, Zw, Zx, Zy, and_self, and_true, true_and, lenA, firstA, EndOk, resultA, oneOf, Zz, Ya, Yb, Yc, Yd, Ye, reduceCtorEq, Yf, Yg, natOf, upTo, bMax, bHigh, bLow, boundsA, evO, Yh, Yi, againOk, Vu, Vv, Vw, Yj, Yk, eq_self, Yl, Ym, Yn, setPs, or_true, true_or, false_or, or_false, ne_eq, Yo, Vx, Vy, Yp, Yq, i_law41_DescribeOutline, c28_0, c28_1, c28_2, c28_3, c28_4, c28_5, c28_6, c28_7, c28_8, c28_9, c28_10, c28_11, c28_12, c28_13, c28_14, c28_15, c28_16, c28_17, c28_18, c28_19, c28_20, c28_21, c28_22, c28_23, c28_24, c28_25, c28_26, c28_27, c28_28, c28_29, c28_30, c28_31, c28_32, c28_33, c28_34, c28_35, c28_37, c28_38, c28_39, c28_40, c28_41, c28_42, c28_43, c28_44, c28_45, c28_46, c28_47, c28_48, c28_49, c28_50, c28_51]
  have hW2 := hW1.push (.cells [.int .u8 fo, .str fn, .slice o1 fa.length c1 z1, .slice o2 fl.length c2 z2] true)
  have hD2 := DAtL.sub (sub_push hW1 (.cells [.int .u8 fo, .str fn, .slice o1 fa.length c1 z1, .slice o2 fl.length c2 z2] true)) _ _ hD0
  refine RunV.to (outline_ok f hr hs hH _ _ hD2) ?_
  have hW3 := hW2.push (.cells (((f.outl 0).map lineS).map .str) true)
  have hD3 := DAtL.sub (sub_push hW2 (.cells (((f.outl 0).map lineS).map .str) true)) _ _ hD2
  have hb3 : ((σ1.push (.cells [.int .u8 fo, .str fn, .slice o1 fa.length c1 z1, .slice o2 fl.length c2 z2] true)).push (.cells (((f.outl 0).map lineS).map .str) true)).get σ1.next = some (.cells [.int .u8 fo, .str fn, .slice o1 fa.length c1 z1, .slice o2 fl.length c2 z2] true) := by
    rw [Vh Vi, Vg]
  simp -implicitDefEqProofs (maxDischargeDepth := 15) only [↓reduceIte, Yr, Ys, Yt, Yu, Yv, Yw, Yx, Yy, Yz, Wa, Wb, Wc, Wd, We, Wf, Wg, Wh, Wi, Wj, Wk, Wl, Wm, Wn, Wo, Wp, Wq, Wr, Ws, Wt, Wu, opA, Wv, Ww, Wx, Wy, Wz, Va, Za, Zb, List.replicate, Zc, Zd, Ze, Vb, Vc, Vd, Ve, Vf, AV.cells, Vg, Vh, Vi, Vj, AState.set_next, AState.kill_next, Vk, Vl, Vm, Vn, Vo, Vp, Vq, Vr, Vs, Vt, partA, Zf, Zg, Zh, Zi, if_true, if_false, Nat.reduceAdd, Nat.reduceLeDiff, Nat.reduceSub, Zj, Nat.zero_le, Zk, Zl, Zm, Zn, Zo, Zp, Zq, Zr, Zs, Zt, binA, eqA, kEq, nilEq, fillA, putL, allOne, Zu, Zv, AV.one, Zw, Zx, Zy, and_self, and_true, true_and, lenA, firstA, EndOk, resultA, oneOf, Zz, Ya, Yb, Yc, Yd, Ye, reduceCtorEq, Yf, Yg, natOf, upTo, bMax, bHigh, bLow, boundsA, evO, Yh, Yi, againOk, Vu, Vv, Vw, Yj, Yk, eq_self, Yl, Ym, Yn, setPs, or_true, true_or, false_or, or_false, ne_eq, Yo, Vx, Vy, Yp, Yq, i_law41_DescribeOutline, c28_0, c28_1, c28_2, c28_3, c28_4, c28_5, c28_6, c28_7, c28_8, c28_9, c28_10, c28_11, c28_12, c28_13, c28_14, c28_15, c28_16, c28_17, c28_18, c28_19, c28_20, c28_21, c28_22, c28_23, c28_24, c28_25, c28_26, c28_27, c28_28, c28_29, c28_30, c28_31, c28_32, c28_33, c28_34, c28_35, c28_37, c28_38, c28_39, c28_40, c28_41, c28_42, c28_43, c28_44, c28_45, c28_46, c28_47, c28_48, c28_49, c28_50, c28_51, hb3]
  refine RunV.to (form_ok f hr hs (by omega) _ _ hD3) ?_
  have d1 : decide (((f.outl 0).length : Int) < 1) = false := decide_eq_false (by omega)
  rw [F.txt_ws f hok]
  simp -implicitDefEqProofs (maxDischargeDepth := 15) only [↓reduceIte, Yr, Ys, Yt, Yu, Yv, Yw, Yx, Yy, Yz, Wa, Wb, Wc, Wd, We, Wf, Wg, Wh, Wi, Wj, Wk, Wl, Wm, Wn, Wo, Wp, Wq, Wr, Ws, Wt, Wu, opA, Wv, Ww, Wx, Wy, Wz, Va, Za, Zb, List.replicate, Zc, Zd, Ze, Vb, Vc, Vd, Ve, Vf, AV.cells, Vg, Vh, Vi, Vj, AState.set_next, AState.kill_next, Vk, Vl, Vm, Vn, Vo, Vp, Vq, Vr, Vs, Vt, partA, Zf, Zg, Zh, Zi, if_true, if_false, Nat.reduceAdd, Nat.reduceLeDiff, Nat.reduceSub, Zj, Nat.zero_le, Zk, Zl, Zm, Zn, Zo, Zp, Zq, Zr, Zs, Zt, binA, eqA, kEq, nilEq, fillA, putL, allOne, Zu, Zv, AV.one, Zw, Zx, Zy, and_self, and_true, true_and, lenA, firstA, EndOk, resultA, oneOf, Zz, Ya, Yb, Yc, Yd, Ye, reduceCtorEq, Yf, Yg, natOf, upTo, bMax, bHigh, bLow, boundsA, evO, Yh, Yi, againOk, Vu, Vv, Vw, Yj, Yk, eq_self, Yl, Ym, Yn, setPs, or_true, true_or, false_or, or_false, ne_eq, Yo, Vx, Vy, Yp, Yq, i_law41_DescribeOutline, c28_0, c28_1, c28_2, c28_3, c28_4, c28_5, c28_6, c28_7, c28_8, c28_9, c28_10, c28_11, c28_12, c28_13, c28_14, c28_15, c28_16, c28_17, c28_18, c28_19, c28_20, c28_21, c28_22, c28_23, c28_24, c28_25, c28_26, c28_27, c28_28, c28_29, c28_30, c28_31, c28_32, c28_33, c28_34, c28_35, c28_37, c28_38, c28_39, c28_40, c28_41, c28_42, c28_43, c28_44, c28_45, c28_46, c28_47, c28_48, c28_49, c28_50, c28_51, d1, wrap00]
  refine RunV.to (split_ok (F.ws_ne f) (F.ws_nice f hok) (by omega) _) ?_
  simp -implicitDefEqProofs (maxDischargeDepth := 15) only [↓reduceIte, Yr, Ys, Yt, Yu, Yv, Yw, Yx, Yy, Yz, Wa, Wb, Wc, Wd, We, Wf, Wg, Wh, Wi, Wj, Wk, Wl, Wm, Wn, Wo, Wp, Wq, Wr, Ws, Wt, Wu, opA, Wv, Ww, Wx, Wy, Wz, Va, Za, Zb, List.replicate, Zc, Zd, Ze, Vb, Vc, Vd, Ve, Vf, AV.cells, Vg, Vh, Vi, Vj, AState.set_next, AState.kill_next, Vk, Vl, Vm, Vn, Vo, Vp, Vq, Vr, Vs, Vt, partA, Zf, Zg, Zh, Zi, if_true, if_false, Nat.reduceAdd, Nat.reduceLeDiff, Nat.reduceSub, Zj, Nat.zero_le, Zk, Zl, Zm, Zn, Zo, Zp, Zq, Zr, Zs, Zt, binA, eqA, kEq, nilEq, fillA, putL, allOne, Zu, Zv, AV.one, Zw, Zx, Zy, and_self, and_true, true_and, lenA, firstA, EndOk, resultA, oneOf, Zz, Ya, Yb, Yc, Yd, Ye, reduceCtorEq, Yf, Yg, natOf, upTo, bMax, bHigh, bLow, boundsA, evO, Yh, Yi, againOk, Vu, Vv, Vw, Yj, Yk, eq_self, Yl, Ym, Yn, setPs, or_true, true_or, false_or, or_false, ne_eq, Yo, Vx, Vy, Yp, Yq, i_law41_DescribeOutline, c28_0, c28_1, c28_2, c28_3, c28_4, c28_5, c28_6, c28_7, c28_8, c28_9, c28_10, c28_11, c28_12, c28_13, c28_14, c28_15, c28_16, c28_17, c28_18, c28_19, c28_20, c28_21, c28_22, c28_23, c28_24, c28_25, c28_26, c28_27, c28_28, c28_29, c28_30, c28_31, c28_32, c28_33, c28_34, c28_37, c28_38, c28_39, c28_40, c28_41, c28_42, c28_43, c28_44, c28_45, c28_46, c28_47, c28_48, c28_49, c28_50, c28_51]
  have hW4 := hW3.push (.cells (f.ws.map .str) true)
  have k0 := (sub_push hW3 (.cells (f.ws.map .str) true)) _ _ ((sub_push hW2 (.cells (((f.outl 0).map lineS).map .str) true)) _ _ ((sub_push hW1 (.cells [.int .u8 fo, .str fn, .slice o1 fa.length c1 z1, .slice o2 fl.length c2 z2] true)) _ _ (hG1.sub _ _ h0)))
  have kf := (sub_push hW3 (.cells (f.ws.map .str) true)) _ _ hb3
  have kl := (sub_push hW3 (.cells (f.ws.map .str) true)) _ _ (Vg (σ := σ1.push (.cells [.int .u8 fo, .str fn, .slice o1 fa.length c1 z1, .slice o2 fl.length c2 z2] true)) (b := .cells (((f.outl 0).map lineS).map .str) true))
  have kw := Vg (σ := (σ1.push (.cells [.int .u8 fo, .str fn, .slice o1 fa.length c1 z1, .slice o2 fl.length c2 z2] true)).push (.cells (((f.outl 0).map lineS).map .str) true)) (b := .cells (f.ws.map .str) true)
  have kD := DAtL.sub (sub_push hW3 (.cells (f.ws.map .str) true)) _ _ hD3
  have kc : AState.next σ1 < (((σ1.push (.cells [.int .u8 fo, .str fn, .slice o1 fa.length c1 z1, .slice o2 fl.length c2 z2] true)).push (.cells (((f.outl 0).map lineS).map .str) true)).push (.cells (f.ws.map .str) true)).next := hW4.lt kf
  generalize (((σ1.push (.cells [.int .u8 fo, .str fn, .slice o1 fa.length c1 z1, .slice o2 fl.length c2 z2] true)).push (.cells (((f.outl 0).map lineS).map .str) true)).push (.cells (f.ws.map .str) true)) = σ4 at *
  generalize ((σ1.push (.cells [.int .u8 fo, .str fn, .slice o1 fa.length c1 z1, .slice o2 fl.length c2 z2] true)).push (.cells (((f.outl 0).map lineS).map .str) true)).next = iw at *
  generalize (σ1.push (.cells [.int .u8 fo, .str fn, .slice o1 fa.length c1 z1, .slice o2 fl.length c2 z2] true)).next = il at *
  have hlines : ∀ p ∈ f.outl 0, p.1 < 48 ∧ p.2.length ≤ 1000000000 ∧ ∃ rs, rs ≠ [] ∧ Nices rs ∧ p.2 = jn rs sp := fun p hp => by
    have h1 := F.outl_heads f 0 ht p hp
    exact ⟨by omega, by omega, F.outl_ws f 0 hok p hp⟩
  have hgood := good_all cntS_jn f hok
  show wpC RR Tryz.prog (.loop c28_35) _ _ _
  refine wp_loopK (fun ts σ m => ∃ k a lv, OInv σ4 il iw σ1.next (f.outl 0).length f.ws.length (f.outl 0) f.ws ts σ m k a lv) (f.outl 0).length ⟨0, 0, -1, ⟨Grow.refl hW4, by omega, by simpa using hgood, by omega, by omega, ⟨rfl, rfl, rfl, rfl, rfl, rfl, rfl, rfl, rfl⟩⟩⟩ ?_
  rintro m ts σ' ⟨k, a, lv, hI⟩
  refine outline_round kl kw k0 rfl rfl (by omega) (by omega) (by omega) hlines hI ?_
  intro ts' hLv hkN
  obtain ⟨v, rfl⟩ := hLv.open
  have haL : a = f.ws.length := by
    have := hI.good
    rw [hkN, List.drop_length] at this
    simpa only [Do.Good] using this
  have hG := hI.grow
  have hW' := hG.wf
  have kf' := hG.sub _ _ kf
  have kfl := hW'.lt kf'
  simp -implicitDefEqProofs (maxDischargeDepth := 15) only [↓reduceIte, Yr, Ys, Yt, Yu, Yv, Yw, Yx, Yy, Yz, Wa, Wb, Wc, Wd, We, Wf, Wg, Wh, Wi, Wj, Wk, Wl, Wm, Wn, Wo, Wp, Wq, Wr, Ws, Wt, Wu, opA, Wv, Ww, Wx, Wy, Wz, Va, Za, Zb, List.replicate, Zc, Zd, Ze, Vb, Vc, Vd, Ve, Vf, AV.cells, Vg, Vh, Vi, Vj, AState.set_next, AState.kill_next, Vk, Vl, Vm, Vn, Vo, Vp, Vq, Vr, Vs, Vt, partA, Zf, Zg, Zh, Zi, if_true, if_false, Nat.reduceAdd, Nat.reduceLeDiff, Nat.reduceSub, Zj, Nat.zero_le, Zk, Zl, Zm, Zn, Zo, Zp, Zq, Zr, Zs, Zt, binA, eqA, kEq, nilEq, fillA, putL, allOne, Zu, Zv, AV.one, Zw, Zx, Zy, and_self, and_true, true_and, lenA, firstA, EndOk, resultA, oneOf, Zz, Ya, Yb, Yc, Yd, Ye, reduceCtorEq, Yf, Yg, natOf, upTo, bMax, bHigh, bLow, boundsA, evO, Yh, Yi, againOk, Vu, Vv, Vw, Yj, Yk, eq_self, Yl, Ym, Yn, setPs, or_true, true_or, false_or, or_false, ne_eq, Yo, Vx, Vy, Yp, Yq, i_law41_DescribeOutline, c28_0, c28_1, c28_2, c28_3, c28_4, c28_5, c28_6, c28_7, c28_8, c28_9, c28_10, c28_11, c28_12, c28_13, c28_14, c28_15, c28_16, c28_17, c28_18, c28_19, c28_20, c28_21, c28_22, c28_23, c28_24, c28_25, c28_26, c28_27, c28_28, c28_29, c28_30, c28_31, c28_32, c28_33, c28_34, c28_37, c28_38, c28_39, c28_40, c28_41, c28_42, c28_43, c28_44, c28_45, c28_46, c28_47, c28_48, c28_49, c28_50, c28_51, kf', kfl]
  have hWa := hW'.push (.cells [.int .i64 0] true)
  have kD' := DAtL.sub hG.sub _ _ kD
  have hnone : σ'.get σ'.next = none := by
    cases e : σ'.get σ'.next with
    | none => rfl
    | some b => exact absurd (hW'.lt e) (by omega)
  refine (countS1_ok (ip := σ'.next) (il := (σ'.push (.cells [.int .i64 0] true)).next) (by simp only [AState.push_next]; omega) _ f (Nat.le_refl _) (by omega) _ 0 σ'.get _
    ⟨by rw [Vh (by simp only [AState.push_next]; omega), Vg]; rfl, Vg⟩ ((sub_push hW' _).trans (sub_push hWa _)) hnone kD' (by omega)).mono ?_
  rintro u σ9 ⟨hC9, hK9⟩
  have hc9 := hC9.cell
  have hsz9 : ((0 + f.sz : Nat) : Int) = ((f.outl 0).length : Int) := by rw [outl_sz]; omega
  rw [hsz9] at hc9
  simp -implicitDefEqProofs (maxDischargeDepth := 15) only [↓reduceIte, Yr, Ys, Yt, Yu, Yv, Yw, Yx, Yy, Yz, Wa, Wb, Wc, Wd, We, Wf, Wg, Wh, Wi, Wj, Wk, Wl, Wm, Wn, Wo, Wp, Wq, Wr, Ws, Wt, Wu, opA, Wv, Ww, Wx, Wy, Wz, Va, Za, Zb, List.replicate, Zc, Zd, Ze, Vb, Vc, Vd, Ve, Vf, AV.cells, Vg, Vh, Vi, Vj, AState.set_next, AState.kill_next, Vk, Vl, Vm, Vn, Vo, Vp, Vq, Vr, Vs, Vt, partA, Zf, Zg, Zh, Zi, if_true, if_false, Nat.reduceAdd, Nat.reduceLeDiff, Nat.reduceSub, Zj, Nat.zero_le, Zk, Zl, Zm, Zn, Zo, Zp, Zq, Zr, Zs, Zt, binA, eqA, kEq, nilEq, fillA, putL, allOne, Zu, Zv, AV.one, Zw, Zx, Zy, and_self, and_true, true_and, lenA, firstA, EndOk, resultA, oneOf, Zz, Ya, Yb, Yc, Yd, Ye, reduceCtorEq, Yf, Yg, natOf, upTo, bMax, bHigh, bLow, boundsA, evO, Yh, Yi, againOk, Vu, Vv, Vw, Yj, Yk, eq_self, Yl, Ym, Yn, setPs, or_true, true_or, false_or, or_false, ne_eq, Yo, Vx, Vy, Yp, Yq, i_law41_DescribeOutline, c28_0, c28_1, c28_2, c28_3, c28_4, c28_5, c28_6, c28_7, c28_8, c28_9, c28_10, c28_11, c28_12, c28_13, c28_14, c28_15, c28_16, c28_17, c28_18, c28_19, c28_20, c28_21, c28_22, c28_23, c28_24, c28_25, c28_26, c28_27, c28_28, c28_29, c28_30, c28_31, c28_32, c28_33, c28_34, c28_37, c28_38, c28_39, c28_40, c28_41, c28_42, c28_43, c28_44, c28_45, c28_46, c28_47, c28_48, c28_49, c28_50, c28_51, hc9, haL]
end Go.Am
