/-
  A PART of the proof: OrW35.
-/
import Derived.Test.YtnpfcgeikgbkbaaGreatDoorT07
import Derived.Test.YtnpfcgeikgbkbaaGreatDoorT05
set_option linter.unusedSimpArgs false
set_option linter.unusedVariables false
namespace Go.Am
open Go.RowKit Go.Proofs Do
set_option maxRecDepth 100000
theorem cutPrefix_ok (a r : Str) (σ : AState) : RunF RR Tryz.prog n_strings_CutPrefix [.str (a ++ r), .str a] σ (fun u σ' => u = .tuple [.str r, .bool true] ∧ σ' = σ) := by
  refine runF_intro hmx rf_strings_CutPrefix ?_
  have k1 : RunF RR Tryz.prog n_stringslite_HasPrefix [.str (a ++ r), .str a] σ (fun u σ' => u = .bool true ∧ σ' = σ) := by
    refine runF_intro hmx rf_stringslite_HasPrefix ?_
    have c1 : decide (((a ++ r).length : Int) ≥ (a.length : Int)) = true := decide_eq_true (by rw [List.length_append]; omega)
    have c2 : a.length ≤ (a ++ r).length := by simp
    have c3 : (a ++ r).take a.length = a := by simp
    have c4 : (a == a) = true := beq_self_eq_true a
    simp -implicitDefEqProofs (maxDischargeDepth := 15) only [↓reduceIte, Yr, Ys, Yt, Yv, Wd, Wh, Wj, Wk, Wo, opA, Wv, Ww, Wx, Wy, Wz, Za, Zb, List.replicate, Zc, Zd, Ze, Vb, Zf, Zg, Nat.reduceAdd, Nat.reduceSub, Zk, Zm, binA, and_self, EndOk, resultA, oneOf, Zz, natOf, upTo, bMax, bHigh, bLow, boundsA, evO, Yh, Yi, Vu, Vv, Yj, eq_self, i_stringslite_HasPrefix, c8_0, c8_1, c1, c2, c3, Nat.sub_zero]
  have k2 : RunF RR Tryz.prog n_stringslite_CutPrefix [.str (a ++ r), .str a] σ (fun u σ' => u = .tuple [.str r, .bool true] ∧ σ' = σ) := by
    refine runF_intro hmx rf_stringslite_CutPrefix ?_
    simp -implicitDefEqProofs (maxDischargeDepth := 15) only [Yr, Ys, Yt, Wb, Wj, Wk, Wo, opA, Wv, Ww, Wx, Wy, Wz, Za, Zb, List.replicate, Zc, Zd, Ze, Vb, Zf, Zg, Zh, Zi, Nat.reduceAdd, Nat.reduceSub, Zk, i_stringslite_CutPrefix, c52_0, c52_1, c52_2, c52_3, c52_4, c52_5]
    refine RunV.to k1 ?_
    have c2 : a.length ≤ (a ++ r).length := by simp
    have c3 : ((a ++ r).take (a ++ r).length).drop a.length = r := by rw [List.take_length]; simp
    simp -implicitDefEqProofs (maxDischargeDepth := 15) only [↓reduceIte, Yr, Ys, Yt, Wa, Wg, Wh, Wj, Wk, Wl, Wo, Wu, opA, Wv, Ww, Wx, Wy, Wz, Za, Zb, Vb, and_self, EndOk, resultA, oneOf, Zz, Yb, natOf, upTo, bMax, bHigh, bLow, boundsA, evO, eq_self, c2, c3]
  simp -implicitDefEqProofs (maxDischargeDepth := 15) only [Yr, Ys, Yt, Wb, Wj, Wk, Wo, opA, Wv, Ww, Wx, Wy, Wz, Za, Zb, List.replicate, Zc, Zd, Ze, Vb, Zf, Zg, Zh, Zi, Nat.reduceAdd, Nat.reduceSub, Zk, i_strings_CutPrefix, c33_0, c33_1, c33_2]
  refine RunV.to k2 ?_
  simp -implicitDefEqProofs (maxDischargeDepth := 15) only [Yr, Ys, Yt, Wh, Wo, Wu, opA, Wv, Wx, Wy, Wz, Za, Zb, Vb, Zq, Zr, and_self, EndOk, resultA, oneOf, Zz, eq_self]
theorem index_comma (u : Str) (r : Str) (h : (44 : UInt8) ∉ u) : Lib.index (u ++ 44 :: 32 :: r) [44, 32] = u.length := by
  have := index_skip (t := [32]) u (44 :: 32 :: r) h
  rw [this, show (44 :: 32 :: r : Str) = [44, 32] ++ r from rfl, index_here _ _ (by simp)]
  unfold sh; rw [if_neg (by omega)]; omega
theorem jn_comma (x : Str) {r : List Str} (h : r ≠ []) : jn (x :: r) sComma = x ++ 44 :: 32 :: jn r sComma := by
  cases r with
  | nil => exact absurd rfl h
  | cons y r => rw [jn_cons2]; simp
theorem drop_at {α : Type} {l : List α} {i : Nat} (h : i < l.length) : ∃ x, l[i]? = some x ∧ l.drop i = x :: l.drop (i + 1) :=
  ⟨l[i], List.getElem?_eq_getElem h, List.drop_eq_getElem_cons h⟩
theorem count2_ok {us : List Str} (hne : us ≠ []) (hn : ∀ u ∈ us, (44 : UInt8) ∉ u) (hl : (jn us sComma).length ≤ 1099511627) {σ : AState} {m0 : Int} (hg : σ.get 0 = some (.cells [.int .i64 m0] false)) :
    RunF RR Tryz.prog n_strings_Count [.str (jn us sComma), .str sComma] σ (fun u σ' => u = .int .i64 ((us.length - 1 : Nat) : Int) ∧ σ' = σ) := by
  refine runF_intro hmx rf_strings_Count ?_
  have hN : 1 ≤ us.length := by cases us with | nil => exact absurd rfl hne | cons a r => simp
  have hNl := jn_len (l := us) (s := sComma) (by simp)
  have c1 : (((2 : Nat) : Int) == 0) = false := rfl
  have c2 : (((2 : Nat) : Int) == 1) = false := rfl
  simp -implicitDefEqProofs (maxDischargeDepth := 15) only [↓reduceIte, Yr, Ys, Yt, Wa, Wg, Wj, Wk, Wl, Wm, Wo, opA, Wv, Ww, Wx, Wy, Wz, Za, Zb, List.replicate, Zc, Zd, Ze, Vb, Zf, Zg, Nat.reduceAdd, Nat.reduceSub, Zk, binA, eq_self, i_strings_Count, c24_0, c24_1, c24_2, c24_3, c24_4, c24_5, c24_6, c24_7, c24_8, c24_9, c24_10, c24_11, c24_12, c24_13, c24_14, c24_15, c24_16, c24_17, c24_18, c24_19, c1, c2]
  refine wp_loopK (fun ts σ' m => ∃ i : Nat, i + m + 1 = us.length ∧ σ' = σ ∧ (jn (us.drop i) sComma).length ≤ 1099511627 ∧ ∃ j2 j3 j4 j6 j7 j8 j9 j10 j11 j12 j13 j14 j15 j16 j17 j18 j19 j20 j21 j22 j23 j24 j25 j26 j27 j28 j29 j30 j31 j32 j33 : AV, ts = [.str (jn (us.drop i) sComma), .str sComma, j2, j3, j4, .int .i64 i, j6, j7, j8, j9, j10, j11, j12, j13, j14, j15, j16, j17, j18, j19, j20, j21, j22, j23, j24, j25, j26, j27, j28, j29, j30, j31, j32, j33]) (us.length - 1) ⟨0, by omega, rfl, by simpa using hl, _, _, _, _, _, _, _, _, _, _, _, _, _, _, _, _, _, _, _, _, _, _, _, _, _, _, _, _, _, _, _, rfl⟩ ?_
  rintro m ts σ' ⟨i, hi, rfl, hjl, j2, j3, j4, j6, j7, j8, j9, j10, j11, j12, j13, j14, j15, j16, j17, j18, j19, j20, j21, j22, j23, j24, j25, j26, j27, j28, j29, j30, j31, j32, j33, rfl⟩
  obtain ⟨u, hu, hd⟩ := drop_at (l := us) (i := i) (by omega)
  have hun := hn u (List.mem_of_getElem? hu)
  simp -implicitDefEqProofs (maxDischargeDepth := 15) only [Ys, Yt, Wb, Wj, Wk, Wm, opA, Wv, Ww, Wx, Wy, Wz, Za, Zb, Vb, Zh, Zi]
  refine RunV.to (index_calls hg _ _ (by omega)) ?_
  by_cases hlt : i + 1 < us.length
  · have hnn : us.drop (i + 1) ≠ [] := by
      intro q; have := congrArg List.length q; simp at this; omega
    have hs : jn (us.drop i) sComma = u ++ 44 :: 32 :: jn (us.drop (i + 1)) sComma := by rw [hd, jn_comma u hnn]
    have hix := index_comma u (jn (us.drop (i + 1)) sComma) hun
    rw [hs] at hjl ⊢
    rw [hix]
    simp only [List.length_append, List.length_cons] at hjl
    have d2 : ((u.length : Int) == -1) = false := by rw [beq_eq_false_iff_ne]; omega
    have w5 : wrapF .i64 ((u.length : Int) + ((2 : Nat) : Int)) = ((u.length + 2 : Nat) : Int) := by rw [wrap_i64 (by omega)]; rfl
    have w6 : wrapF .i64 ((i : Int) + 1) = ((i + 1 : Nat) : Int) := by rw [wrap_i64 (by omega)]; rfl
    have t2 : (((u ++ 44 :: 32 :: jn (us.drop (i + 1)) sComma).take (u.length + ((jn (us.drop (i + 1)) sComma).length + 1 + 1))).drop (u.length + 2)) = jn (us.drop (i + 1)) sComma := by
      rw [List.take_of_length_le (by simp)]
      simp [List.drop_append]
    have l5 : u.length + 2 ≤ u.length + ((jn (us.drop (i + 1)) sComma).length + 1 + 1) := by omega
    simp -implicitDefEqProofs (maxDischargeDepth := 15) only [↓reduceIte, Yr, Ys, Yt, Wa, Wg, Wj, Wk, Wl, Wo, Wr, Wu, opA, Wv, Ww, Wx, Wy, Wz, Za, Zb, Vb, Zf, Zg, Nat.reduceAdd, Zk, binA, true_and, Zz, natOf, upTo, bMax, bHigh, bLow, boundsA, evO, eq_self, d2, w5, w6, t2, l5, List.length_append, lk_n]
    exact ⟨m - 1, by omega, i + 1, by omega, by omega, _, _, _, _, _, _, _, _, _, _, _, _, _, _, _, _, _, _, _, _, _, _, _, _, _, _, _, _, _, _, _, rfl⟩
  · have hlast : jn (us.drop i) sComma = u := by
      rw [hd, List.drop_eq_nil_of_le (show us.length ≤ i + 1 by omega), jn_one]
    rw [hlast, show Lib.index u [44, 32] = -1 from index_no hun]
    simp -implicitDefEqProofs (maxDischargeDepth := 15) only [↓reduceIte, Yr, Ys, Yt, Yz, Wh, Wj, Wk, Wl, Wo, Wq, Wt, Wu, opA, Wv, Ww, Wx, Wy, Wz, Za, Zb, Vb, binA, and_true, EndOk, resultA, oneOf, Zz, Yj, eq_self, lk_r]
    have : i = us.length - 1 := by omega
    subst this
    trivial
theorem split2_ok {us : List Str} (hne : us ≠ []) (hn : ∀ u ∈ us, (44 : UInt8) ∉ u) (hl : (jn us sComma).length ≤ 1099511627) {σ : AState} {m0 : Int} (hg : σ.get 0 = some (.cells [.int .i64 m0] false)) :
    RunF RR Tryz.prog n_strings_Split [.str (jn us sComma), .str sComma] σ (fun u σ' => u = .slice (some (σ.next, 0)) us.length (some us.length) 1 ∧ σ' = σ.push (.cells (us.map .str) true)) := by
  refine RunV.wf fun hW => ?_
  refine runF_intro hmx rf_strings_Split ?_
  simp -implicitDefEqProofs (maxDischargeDepth := 15) only [Yr, Ys, Yt, Wb, Wj, Wk, Wo, opA, Wv, Ww, Wx, Wy, Wz, Za, Zb, List.replicate, Zc, Zd, Ze, Vb, Zf, Zg, Zh, Zi, Nat.reduceAdd, Nat.reduceSub, Zk, i_strings_Split, c61_0, c61_1, c61_2]
  have key : RunF RR Tryz.prog n_strings_genSplit [.str (jn us sComma), .str sComma, .int .i64 0, .int .i64 (-1)] σ (fun u σ' => u = .slice (some (σ.next, 0)) us.length (some us.length) 1 ∧ σ' = σ.push (.cells (us.map .str) true)) := by
    refine runF_intro hmx rf_strings_genSplit ?_
    have hN : 1 ≤ us.length := by cases us with | nil => exact absurd rfl hne | cons a r => simp
    have hNl := jn_len (l := us) (s := sComma) (by simp)
    have c1 : ((-1 : Int) == 0) = false := rfl
    have c2 : (sComma == ([] : Str)) = false := rfl
    have c3 : decide ((-1 : Int) < 0) = true := rfl
    have w1 : wrapF .i64 (((us.length - 1 : Nat) : Int) + 1) = (us.length : Int) := by rw [wrap_i64 (by omega)]; omega
    have w2 : wrapF .i64 (((jn us sComma).length : Int) + 1) = ((jn us sComma).length : Int) + 1 := wrap_i64 (by omega)
    have w3 : wrapF .i64 ((us.length : Int) - 1) = ((us.length - 1 : Nat) : Int) := by rw [wrap_i64 (by omega)]; omega
    have c4 : ¬ (((jn us sComma).length : Int) + 1 < (us.length : Int)) := by omega
    have c5 : us.length * 16 ≤ 281474976710656 := by omega
    simp -implicitDefEqProofs (maxDischargeDepth := 15) only [↓reduceIte, Yr, Ys, Yt, Yz, Wa, Wb, Wg, Wj, Wk, Wl, Wo, opA, Wv, Ww, Wx, Wy, Wz, Za, Zb, List.replicate, Zc, Zd, Ze, Vb, Zf, Zg, Zh, Zi, Nat.reduceAdd, Nat.reduceSub, Zk, binA, eq_self, i_strings_genSplit, c69_0, c69_1, c69_2, c69_3, c69_4, c69_5, c69_6, c69_7, c69_8, c69_9, c69_10, c69_11, c69_12, c69_13, c69_14, c69_15, c69_16, c69_17, c69_18, c69_19, c69_20, c69_21, c69_22, c69_23, c69_24, c69_25, c69_26, c69_27, c69_28, c69_29, c1, c2, c3]
    refine RunV.to (count2_ok hne hn hl hg) ?_
    simp -implicitDefEqProofs (maxDischargeDepth := 15) only [↓reduceIte, Yr, Ys, Yt, Wj, Wk, Wm, Wo, Wu, opA, Wv, Ww, Wx, Wy, Wz, Za, Zb, Vb, Vc, Vd, Zf, Zg, Zh, Zi, Zj, Zk, binA, and_self, natOf, eq_self, w1, w2, w3, minA, c4, c5, replicate_flat, show (0 < 1) = True from by simp, show (0 < 16) = True from by simp]
    refine wp_loopK (fun ts σ' m => ∃ i : Nat, i + m + 1 = us.length ∧ σ' = σ.push (.cells (splitL us i) true) ∧ (jn (us.drop i) sComma).length ≤ 1099511627 ∧ ∃ j4 j5 j6 j7 j8 j11 j12 j13 j14 j15 j16 j17 j18 j19 j20 j21 j22 j23 j24 j25 j26 j27 j28 j29 j30 j31 j32 j33 j34 j35 j36 j37 j38 j39 j40 j41 j42 j43 j44 j45 j46 j47 j48 j49 j50 j51 j52 j53 j54 j55 j56 j57 j58 j59 j60 j61 j62 j63 j64 j65 : AV, ts = [.str (jn (us.drop i) sComma), .str sComma, .int .i64 0, .int .i64 ((us.length - 1 : Nat) : Int), j4, j5, j6, j7, j8, .slice (some (σ.next, 0)) us.length (some us.length) 1, .int .i64 i, j11, j12, j13, j14, j15, j16, j17, j18, j19, j20, j21, j22, j23, j24, j25, j26, j27, j28, j29, j30, j31, j32, j33, j34, j35, j36, j37, j38, j39, j40, j41, j42, j43, j44, j45, j46, j47, j48, j49, j50, j51, j52, j53, j54, j55, j56, j57, j58, j59, j60, j61, j62, j63, j64, j65]) (us.length - 1) ⟨0, by omega, by simp [splitL], by simpa using hl, _, _, _, _, _, _, _, _, _, _, _, _, _, _, _, _, _, _, _, _, _, _, _, _, _, _, _, _, _, _, _, _, _, _, _, _, _, _, _, _, _, _, _, _, _, _, _, _, _, _, _, _, _, _, _, _, _, _, _, _, rfl⟩ ?_
    rintro m ts σ' ⟨i, hi, rfl, hjl, j4, j5, j6, j7, j8, j11, j12, j13, j14, j15, j16, j17, j18, j19, j20, j21, j22, j23, j24, j25, j26, j27, j28, j29, j30, j31, j32, j33, j34, j35, j36, j37, j38, j39, j40, j41, j42, j43, j44, j45, j46, j47, j48, j49, j50, j51, j52, j53, j54, j55, j56, j57, j58, j59, j60, j61, j62, j63, j64, j65, rfl⟩
    have hsl := splitL_len us i (by omega)
    obtain ⟨w, hw, hdr⟩ := drop_at (l := us) (i := i) (by omega)
    have hun := hn w (List.mem_of_getElem? hw)
    have e1 : (0 : Int) ≤ (i : Int) ∧ (i : Int) < (us.length : Int) := by omega
    have e2 : i + 1 ≤ us.length := by omega
    have hgi : (σ.push (.cells (splitL us i) true)).get 0 = some (.cells [.int .i64 m0] false) := sub_push hW _ _ _ hg
    by_cases hlt : i < us.length - 1
    · have d1 : decide ((i : Int) < ((us.length - 1 : Nat) : Int)) = true := decide_eq_true (by omega)
      have hnn : us.drop (i + 1) ≠ [] := by
        intro q; have := congrArg List.length q; simp at this; omega
      have hs : jn (us.drop i) sComma = w ++ 44 :: 32 :: jn (us.drop (i + 1)) sComma := by rw [hdr, jn_comma w hnn]
      have hix := index_comma w (jn (us.drop (i + 1)) sComma) hun
      simp -implicitDefEqProofs (maxDischargeDepth := 15) only [↓reduceIte, Yr, Ys, Yt, Yz, Wb, Wg, Wj, Wk, Wl, Wm, Wo, opA, Wv, Ww, Wx, Wy, Wz, Za, Zb, Vb, Zh, Zi, binA, eq_self, d1]
      refine RunV.to (index_calls hgi _ _ (by omega)) ?_
      rw [hs] at hjl ⊢
      rw [hix]
      simp only [List.length_append, List.length_cons] at hjl
      have d2 : decide ((w.length : Int) < 0) = false := decide_eq_false (by omega)
      have w4 : wrapF .i64 ((w.length : Int) + 0) = (w.length : Int) := by rw [wrap_i64 (by omega)]; omega
      have w5 : wrapF .i64 ((w.length : Int) + ((2 : Nat) : Int)) = ((w.length + 2 : Nat) : Int) := by rw [wrap_i64 (by omega)]; rfl
      have w6 : wrapF .i64 ((i : Int) + 1) = ((i + 1 : Nat) : Int) := by rw [wrap_i64 (by omega)]; rfl
      have t1 : (w ++ 44 :: 32 :: jn (us.drop (i + 1)) sComma).take w.length = w := by simp
      have t2 : (((w ++ 44 :: 32 :: jn (us.drop (i + 1)) sComma).take (w.length + ((jn (us.drop (i + 1)) sComma).length + 1 + 1))).drop (w.length + 2)) = jn (us.drop (i + 1)) sComma := by
        rw [List.take_of_length_le (by simp)]
        simp [List.drop_append]
      simp -implicitDefEqProofs (maxDischargeDepth := 15) only [↓reduceIte, Yr, Ys, Yt, Wa, Wg, Wj, Wk, Wl, Wo, Wu, opA, Wv, Ww, Wx, Wy, Wz, Za, Zb, Vb, Zf, binA, Zz, natOf, upTo, bMax, bHigh, bLow, boundsA, evO, Yh, Yi, eq_self, d2, w4, List.length_append, Nat.sub_zero]
      have l4 : w.length ≤ w.length + ((jn (us.drop (i + 1)) sComma).length + 1 + 1) := by omega
      have l5 : w.length + 2 ≤ w.length + ((jn (us.drop (i + 1)) sComma).length + 1 + 1) := by omega
      simp -implicitDefEqProofs (maxDischargeDepth := 15) only [↓reduceIte, Yr, Ys, Yt, Wj, Wk, Wo, Wr, opA, Wv, Ww, Wx, Wy, Wz, Va, Za, Zb, Vb, Vc, Ve, AV.cells, Vg, Vn, Zf, Zg, Nat.reduceAdd, Zk, Zm, binA, putL, allOne, Zu, Zv, AV.one, Zy, and_self, Zz, Yf, natOf, upTo, bMax, bHigh, bLow, boundsA, evO, eq_self, l4, l5, w5, w6, t1, t2, List.length_append, e1, e2, hsl, Nat.mul_one, lk_n, splitL_put us i w hw]
      exact ⟨m - 1, by omega, i + 1, by omega, rfl, by omega, _, _, _, _, _, _, _, _, _, _, _, _, _, _, _, _, _, _, _, _, _, _, _, _, _, _, _, _, _, _, _, _, _, _, _, _, _, _, _, _, _, _, _, _, _, _, _, _, _, _, _, _, _, _, _, _, _, _, _, _, rfl⟩
    · have d1 : decide ((i : Int) < ((us.length - 1 : Nat) : Int)) = false := decide_eq_false (by omega)
      have hiN : i + 1 = us.length := by omega
      have hlast : jn (us.drop i) sComma = w := by
        rw [hdr, List.drop_eq_nil_of_le (show us.length ≤ i + 1 by omega), jn_one]
      rw [hlast]
      have w6 : wrapF .i64 ((i : Int) + 1) = ((i + 1 : Nat) : Int) := by rw [wrap_i64 (by omega)]; rfl
      have hfin : splitL us us.length = us.map .str := by unfold splitL; rw [List.take_length, Nat.sub_self]; simp
      simp -implicitDefEqProofs (maxDischargeDepth := 15) only [↓reduceIte, Yr, Ys, Yt, Wa, Wh, Wi, Wj, Wk, Wl, Wo, Wp, Ws, opA, Wv, Ww, Wx, Wy, Wz, Va, Za, Zb, Vb, Vc, Ve, AV.cells, Vg, Vn, Zf, Zg, Zk, Zl, binA, putL, allOne, Zu, Zv, AV.one, Zy, and_self, EndOk, resultA, oneOf, Zz, reduceCtorEq, Yf, natOf, upTo, bMax, bHigh, bLow, boundsA, evO, Yh, Yi, eq_self, or_true, d1, w6, e1, e2, hsl, Nat.mul_one, Nat.sub_zero, lk_e, splitL_put us i w hw]
      simp only [hiN, hfin]
      exact ⟨trivial, trivial⟩
  refine RunV.to key ?_
  simp -implicitDefEqProofs (maxDischargeDepth := 15) only [Yr, Ys, Yt, Wh, Wo, Wu, opA, Wv, Wx, Wy, Wz, Za, Zb, Vb, and_self, EndOk, resultA, oneOf, Zz, eq_self]
end Go.Am
