/-
  A PART of the proof: ApW6, ApW7, AmTree, ApTab, DoSmall, DoProved, AmLoop, DoOrder, DoOrder2, DoOrder3, DoApart, DoApart2, DoApart3, DoApart4, DoApart5, DoApart6, AmLift.
-/
import Derived.Test.YtndfemigjgpdlaaGreatDoorT04
import Derived.Test.YtndfemigjgpdlaaGreatDoorT02
import Derived.Test.YtndfemigjgpdlaaGreatDoorT03
import Derived.Lib.IndexMore
import Derived.Carry
import Derived.ChangeSlices
import Derived.ChangeShapes
import Derived.WideShapes
set_option linter.unusedSimpArgs false
set_option linter.unusedVariables false
namespace Go.Am
open Go.RowKit Go.Proofs Do
set_option maxRecDepth 100000
abbrev bI (b : UInt8) : AV := .int .u8 b.toNat
theorem u8le {a b : UInt8} : decide ((b.toNat : Int) ≥ a.toNat) = decide (a ≤ b) := by
  rw [decide_eq_decide, UInt8.le_iff_toNat_le]; omega
theorem u8ge {a b : UInt8} : decide ((b.toNat : Int) ≤ a.toNat) = decide (b ≤ a) := by
  rw [decide_eq_decide, UInt8.le_iff_toNat_le]; omega
theorem digit_ok (b : UInt8) (σ : AState) : RunF RR Tryz.prog n_syntax_digit [bI b] σ (fun u σ' => u = .bool (isDigit b) ∧ σ' = σ) := by
  refine runF_intro hmx rf_syntax_digit ?_
  have h1 : decide ((b.toNat : Int) ≥ 48) = decide (48 ≤ b) := u8le (a := 48)
  have h2 : decide ((b.toNat : Int) ≤ 57) = decide (b ≤ 57) := u8ge (a := 57)
  unfold isDigit
  cases h : decide (48 ≤ b)
  · rw [h] at h1; simp -implicitDefEqProofs (maxDischargeDepth := 15) only [↓reduceIte, Yr, Ys, Yt, Yw, Wd, Wh, Wj, Wk, Wo, opA, Wv, Ww, Wx, Wy, Wz, Za, Zb, List.replicate, Zc, Zd, Ze, Vb, Zf, Zg, Nat.reduceSub, Zk, binA, and_self, EndOk, resultA, oneOf, Zz, Yd, Vu, Vv, eq_self, Vx, i_syntax_digit, c49_0, c49_1, h1, Bool.false_and]
  · rw [h] at h1; simp -implicitDefEqProofs (maxDischargeDepth := 15) only [↓reduceIte, Yr, Ys, Yt, Yv, Wd, Wh, Wj, Wk, Wo, opA, Wv, Ww, Wx, Wy, Wz, Za, Zb, List.replicate, Zc, Zd, Ze, Vb, Zf, Zg, Nat.reduceSub, Zk, binA, Zx, and_self, EndOk, resultA, oneOf, Zz, Vu, Vv, Yj, eq_self, i_syntax_digit, c49_0, c49_1, h1, h2, Zx]
theorem capital_ok (b : UInt8) (σ : AState) : RunF RR Tryz.prog n_syntax_capital [bI b] σ (fun u σ' => u = .bool (isCap b) ∧ σ' = σ) := by
  refine runF_intro hmx rf_syntax_capital ?_
  have h1 : decide ((b.toNat : Int) ≥ 65) = decide (65 ≤ b) := u8le (a := 65)
  have h2 : decide ((b.toNat : Int) ≤ 90) = decide (b ≤ 90) := u8ge (a := 90)
  unfold isCap
  cases h : decide (65 ≤ b)
  · rw [h] at h1; simp -implicitDefEqProofs (maxDischargeDepth := 15) only [↓reduceIte, Yr, Ys, Yt, Yw, Wd, Wh, Wj, Wk, Wo, opA, Wv, Ww, Wx, Wy, Wz, Za, Zb, List.replicate, Zc, Zd, Ze, Vb, Zf, Zg, Nat.reduceSub, Zk, binA, and_self, EndOk, resultA, oneOf, Zz, Yd, Vu, Vv, eq_self, Vx, i_syntax_capital, c21_0, c21_1, h1, Bool.false_and]
  · rw [h] at h1; simp -implicitDefEqProofs (maxDischargeDepth := 15) only [↓reduceIte, Yr, Ys, Yt, Yv, Wd, Wh, Wj, Wk, Wo, opA, Wv, Ww, Wx, Wy, Wz, Za, Zb, List.replicate, Zc, Zd, Ze, Vb, Zf, Zg, Nat.reduceSub, Zk, binA, Zx, and_self, EndOk, resultA, oneOf, Zz, Vu, Vv, Yj, eq_self, i_syntax_capital, c21_0, c21_1, h1, h2, Zx]
theorem small_ok (b : UInt8) (σ : AState) : RunF RR Tryz.prog n_syntax_small [bI b] σ (fun u σ' => u = .bool (isSmall b) ∧ σ' = σ) := by
  refine runF_intro hmx rf_syntax_small ?_
  have h1 : decide ((b.toNat : Int) ≥ 97) = decide (97 ≤ b) := u8le (a := 97)
  have h2 : decide ((b.toNat : Int) ≤ 122) = decide (b ≤ 122) := u8ge (a := 122)
  unfold isSmall
  cases h : decide (97 ≤ b)
  · rw [h] at h1; simp -implicitDefEqProofs (maxDischargeDepth := 15) only [↓reduceIte, Yr, Ys, Yt, Yw, Wd, Wh, Wj, Wk, Wo, opA, Wv, Ww, Wx, Wy, Wz, Za, Zb, List.replicate, Zc, Zd, Ze, Vb, Zf, Zg, Nat.reduceSub, Zk, binA, and_self, EndOk, resultA, oneOf, Zz, Yd, Vu, Vv, eq_self, Vx, i_syntax_small, c22_0, c22_1, h1, Bool.false_and]
  · rw [h] at h1; simp -implicitDefEqProofs (maxDischargeDepth := 15) only [↓reduceIte, Yr, Ys, Yt, Yv, Wd, Wh, Wj, Wk, Wo, opA, Wv, Ww, Wx, Wy, Wz, Za, Zb, List.replicate, Zc, Zd, Ze, Vb, Zf, Zg, Nat.reduceSub, Zk, binA, Zx, and_self, EndOk, resultA, oneOf, Zz, Vu, Vv, Yj, eq_self, i_syntax_small, c22_0, c22_1, h1, h2, Zx]
theorem fnS1_ok (b : UInt8) (σ : AState) : RunF RR Tryz.prog n_syntax_FunctionS1 [bI b] σ (fun u σ' => u = .bool (firstFun b) ∧ σ' = σ) := by
  refine runF_intro hmx rf_syntax_FunctionS1 ?_
  have h1 : decide ((b.toNat : Int) ≥ 97) = decide (97 ≤ b) := u8le (a := 97)
  have h2 : decide ((b.toNat : Int) ≤ 116) = decide (b ≤ 116) := u8ge (a := 116)
  unfold firstFun
  cases h : decide (97 ≤ b)
  · rw [h] at h1; simp -implicitDefEqProofs (maxDischargeDepth := 15) only [↓reduceIte, Yr, Ys, Yt, Yw, Wd, Wh, Wj, Wk, Wo, opA, Wv, Ww, Wx, Wy, Wz, Za, Zb, List.replicate, Zc, Zd, Ze, Vb, Zf, Zg, Nat.reduceSub, Zk, binA, and_self, EndOk, resultA, oneOf, Zz, Yd, Vu, Vv, eq_self, Vx, i_syntax_FunctionS1, c20_0, c20_1, h1, Bool.false_and]
  · rw [h] at h1; simp -implicitDefEqProofs (maxDischargeDepth := 15) only [↓reduceIte, Yr, Ys, Yt, Yv, Wd, Wh, Wj, Wk, Wo, opA, Wv, Ww, Wx, Wy, Wz, Za, Zb, List.replicate, Zc, Zd, Ze, Vb, Zf, Zg, Nat.reduceSub, Zk, binA, Zx, and_self, EndOk, resultA, oneOf, Zz, Vu, Vv, Yj, eq_self, i_syntax_FunctionS1, c20_0, c20_1, h1, h2, Zx]
theorem varS1_ok (b : UInt8) (σ : AState) : RunF RR Tryz.prog n_syntax_VariableS1 [bI b] σ (fun u σ' => u = .bool (firstVar b) ∧ σ' = σ) := by
  refine runF_intro hmx rf_syntax_VariableS1 ?_
  have h1 : decide ((b.toNat : Int) ≥ 117) = decide (117 ≤ b) := u8le (a := 117)
  have h2 : decide ((b.toNat : Int) ≤ 122) = decide (b ≤ 122) := u8ge (a := 122)
  unfold firstVar
  cases h : decide (117 ≤ b)
  · rw [h] at h1; simp -implicitDefEqProofs (maxDischargeDepth := 15) only [↓reduceIte, Yr, Ys, Yt, Yw, Wd, Wh, Wj, Wk, Wo, opA, Wv, Ww, Wx, Wy, Wz, Za, Zb, List.replicate, Zc, Zd, Ze, Vb, Zf, Zg, Nat.reduceSub, Zk, binA, and_self, EndOk, resultA, oneOf, Zz, Yd, Vu, Vv, eq_self, Vx, i_syntax_VariableS1, c97_0, c97_1, h1, Bool.false_and]
  · rw [h] at h1; simp -implicitDefEqProofs (maxDischargeDepth := 15) only [↓reduceIte, Yr, Ys, Yt, Yv, Wd, Wh, Wj, Wk, Wo, opA, Wv, Ww, Wx, Wy, Wz, Za, Zb, List.replicate, Zc, Zd, Ze, Vb, Zf, Zg, Nat.reduceSub, Zk, binA, Zx, and_self, EndOk, resultA, oneOf, Zz, Vu, Vv, Yj, eq_self, i_syntax_VariableS1, c97_0, c97_1, h1, h2, Zx]
theorem letter_ok (b : UInt8) (σ : AState) : RunF RR Tryz.prog n_syntax_letter [bI b] σ (fun u σ' => u = .bool (isLetter b) ∧ σ' = σ) := by
  refine runF_intro hmx rf_syntax_letter ?_
  unfold isLetter
  simp -implicitDefEqProofs (maxDischargeDepth := 15) only [Yr, Ys, Yt, Wb, Wj, Wk, Wo, opA, Wv, Ww, Wx, Wy, Wz, Za, Zb, List.replicate, Zc, Zd, Ze, Vb, Zf, Zg, Zh, Zi, Nat.reduceSub, Zk, i_syntax_letter, c43_0, c43_1, c43_2, c43_3, c43_4]
  refine RunV.to (small_ok b _) ?_
  cases h : isSmall b
  · simp -implicitDefEqProofs (maxDischargeDepth := 15) only [Ys, Yt, Yv, Wb, Wd, We, Wu, opA, Wv, Ww, Wx, Wy, Wz, Za, Zb, Vb, Zh, Zi, Vu, Vv, Yj, Bool.false_or]
    refine RunV.to (capital_ok b _) ?_
    cases h : isCap b
    · simp -implicitDefEqProofs (maxDischargeDepth := 15) only [↓reduceIte, Ys, Yt, Yv, Wb, Wd, We, Wu, opA, Wv, Ww, Wx, Wy, Wz, Za, Zb, Vb, Zh, Zi, Yd, Vu, Vv, Yj, Bool.false_or]
      refine RunV.to (digit_ok b _) ?_
      simp -implicitDefEqProofs (maxDischargeDepth := 15) only [↓reduceIte, Yr, Ys, Yt, Wh, Wo, Wu, opA, Wv, Wx, Wy, Wz, Za, Zb, Vb, and_self, EndOk, resultA, oneOf, Zz, Yd, eq_self]
    · simp -implicitDefEqProofs (maxDischargeDepth := 15) only [↓reduceIte, Yr, Ys, Yt, Yw, Wd, We, Wh, Wo, Wu, opA, Wv, Ww, Wx, Wy, Wz, Za, Zb, Vb, and_self, EndOk, resultA, oneOf, Zz, Yd, Vu, Vv, eq_self, Vy, Bool.true_or]
  · simp -implicitDefEqProofs (maxDischargeDepth := 15) only [↓reduceIte, Yr, Ys, Yt, Yw, Wd, We, Wh, Wo, Wu, opA, Wv, Ww, Wx, Wy, Wz, Za, Zb, Vb, and_self, EndOk, resultA, oneOf, Zz, Vu, Vv, eq_self, Vy, Bool.true_or]
theorem index_strs_ok {σ : AState} {o : Option (Nat × Nat)} {n : Nat} {c : Option Nat} {z : Nat} {ss : List Str} (h : Strs σ.get o n z ss) (hb : n ≤ 4611686018427387904) (s : Str) :
    RunF RR Tryz.prog n_slices_Contains_string [.slice o n c z, .str s] σ (fun u σ' => u = .bool (ss.contains s) ∧ σ' = σ) := by
  refine runF_intro hmx rf_slices_Contains_string ?_
  have hlen := h.len
  simp -implicitDefEqProofs (maxDischargeDepth := 15) only [Yr, Ys, Yt, Wb, Wj, Wk, Wo, opA, Wv, Ww, Wx, Wy, Wz, Za, Zb, List.replicate, Zc, Zd, Ze, Vb, Zf, Zg, Zh, Zi, Nat.reduceAdd, Nat.reduceSub, Zk, i_slices_Contains_string, c46_0, c46_1, c46_2]
  have key : RunF RR Tryz.prog n_slices_Index_string [.slice o n c z, .str s] σ (fun u σ' => u = .int .i64 (ixInt (fun x => s == x) ss) ∧ σ' = σ) := by
    refine runF_intro hmx rf_slices_Index_string ?_
    simp -implicitDefEqProofs (maxDischargeDepth := 15) only [Yr, Ys, Yt, Wj, Wk, Wm, Wo, opA, Wv, Ww, Wx, Wy, Wz, Za, Zb, List.replicate, Zc, Zd, Ze, Vb, Zf, Zg, Nat.reduceAdd, Nat.reduceSub, Zk, i_slices_Index_string, c91_0, c91_1, c91_2, c91_3, c91_4, c91_5, c91_6, c91_7, c91_8, c91_9, c91_10, c91_11, c91_12]
    refine wp_loop (fun ts σ' m => ∃ k : Nat, σ' = σ ∧ k + m = n ∧ (∀ i x, i < k → ss[i]? = some x → (s == x) = false) ∧ ∃ j2 j3 j5 j9 j10 j11 j12 j13 j14 j15 j16 j17 j18 : AV, ts = [.slice o n c z, .str s, j2, j3, .int .i64 0, j5, .slice o n c z, .int .i64 n, .int .i64 k, j9, j10, j11, j12, j13, j14, j15, j16, j17, j18]) n ⟨0, rfl, by omega, fun i x hi => by omega, _, _, _, _, _, _, _, _, _, _, _, _, _, rfl⟩ ?_
    rintro m ts σ' ⟨k, rfl, hk, hq, j2, j3, j5, j9, j10, j11, j12, j13, j14, j15, j16, j17, j18, rfl⟩
    by_cases hlt : k < n
    · obtain ⟨x, hx⟩ : ∃ x, ss[k]? = some x := ⟨ss[k]'(by omega), List.getElem?_eq_getElem _⟩
      obtain ⟨rfl, i, off, l, w, rfl, hg, hp⟩ := h.elem hx
      have hd : decide ((k : Int) < n) = true := decide_eq_true (by omega)
      have e1 : (0 : Int) ≤ (k : Int) ∧ (k : Int) < (n : Int) := by omega
      cases hqx : (s == x)
      · simp -implicitDefEqProofs (maxDischargeDepth := 15) only [↓reduceIte, Yr, Ys, Yt, Yz, Wa, Wg, Wh, Wj, Wk, Wl, Wm, Wo, Wp, Wq, Wr, Ws, Wt, opA, Wv, Ww, Wx, Wy, Wz, Za, Zb, Vb, partA, binA, and_self, true_and, EndOk, resultA, oneOf, Zz, Yf, eq_self, Yp, e1, hg, hp, hqx, Nat.mul_one]
        refine ⟨m - 1, by omega, k + 1, by omega, fun i y hi hy => ?_, ?_⟩
        · by_cases e : i = k
          · subst e; rw [hx] at hy; cases hy; exact hqx
          · exact hq i y (by omega) hy
        · rw [wrap_i64 (by omega)]
          exact ⟨_, _, _, _, _, _, _, _, _, _, _, _, _, rfl⟩
      · simp -implicitDefEqProofs (maxDischargeDepth := 15) only [↓reduceIte, Yr, Ys, Yt, Yz, Wg, Wh, Wj, Wk, Wl, Wm, Wo, Wp, Wq, Ws, Wt, opA, Wv, Ww, Wx, Wy, Wz, Za, Zb, Vb, partA, binA, and_self, and_true, EndOk, resultA, oneOf, Zz, Yf, eq_self, Yp, e1, hg, hp, hqx, Nat.mul_one]
        have : ss.findIdx? (fun x => s == x) = some k := by
          rw [List.findIdx?_eq_some_iff_getElem]
          refine ⟨by omega, ?_, fun j hj => ?_⟩
          · rw [List.getElem?_eq_getElem (by omega)] at hx; cases hx; exact hqx
          · simpa using hq j _ hj (List.getElem?_eq_getElem (by omega))
        simp [ixInt, this]
    · have hd : decide ((k : Int) < n) = false := decide_eq_false (by omega)
      simp -implicitDefEqProofs (maxDischargeDepth := 15) only [↓reduceIte, Yr, Ys, Yt, Wa, Wh, Wi, Wj, Wk, Wl, Wo, Wp, Wq, Ws, Wt, opA, Wv, Ww, Wx, Wy, Wz, Za, Zb, Vb, binA, and_true, EndOk, resultA, oneOf, Zz, eq_self, hd]
      have : ss.findIdx? (fun x => s == x) = none := by
        rw [List.findIdx?_eq_none_iff]
        intro x hx
        obtain ⟨j, hj, rfl⟩ := List.getElem_of_mem hx
        exact hq j _ (by omega) (List.getElem?_eq_getElem hj)
      simp [ixInt, this]
  refine RunV.to key ?_
  simp -implicitDefEqProofs (maxDischargeDepth := 15) only [↓reduceIte, Yr, Ys, Yt, Wh, Wo, Wu, opA, Wv, Ww, Wx, Wy, Wz, Za, Zb, Vb, binA, and_true, EndOk, resultA, oneOf, Zz, eq_self, ixInt_ge]
  rw [List.contains_eq_any_beq]
end Go.Am
namespace Go.Am
open Go.RowKit Go.Proofs Do
set_option maxRecDepth 100000
def FnB (n : Nat) (q : UInt8 → Bool) : Prop := ∀ (b : UInt8) (σ : AState), RunF RR Tryz.prog n [bI b] σ (fun u σ' => u = .bool (q b) ∧ σ' = σ)
theorem bytes_elem {s : Str} {k : Nat} {x : UInt8} (h : s[k]? = some x) : (bytesOf s)[k]? = some (bI x) := by
  simp [bytesOf, h]
theorem nameS1_ok {n : Nat} {q : UInt8 → Bool} (h : FnB n q) (b : UInt8) (σ : AState) (p : Nat) (hp : σ.get p = some (.cells [.func (.func n) [] []] true)) :
    RunV RR Tryz.prog (.func (.func n_syntax_nameS1) [] [.ptr (some (p, 0))]) [bI b] σ (fun u σ' => u = .bool (!q b) ∧ σ' = σ) := by
  refine runF_intro hmx rf_syntax_nameS1 ?_
  simp -implicitDefEqProofs (maxDischargeDepth := 15) only [Yr, Ys, Yt, Wb, Wj, Wk, Wo, opA, Wv, Ww, Wx, Wy, Wz, Za, Zb, List.replicate, Zc, Zd, Vb, partA, Zf, Zg, Zh, Zi, Nat.reduceAdd, Nat.reduceSub, Zk, Zq, i_syntax_nameS1, c103_0, c103_1, c103_2, hp]
  refine RunV.to (h b σ) ?_
  simp -implicitDefEqProofs (maxDischargeDepth := 15) only [Yr, Ys, Yt, Wh, Wo, Wu, opA, Wv, Wx, Wy, Wz, Za, Zb, Vb, and_self, EndOk, resultA, oneOf, Zz, eq_self]
theorem nameB_cons (first rest : UInt8 → Bool) (c : UInt8) (r : Str) : nameB first rest (c :: r) = (decide ((c :: r).length ≤ 16) && first c && !barred.contains (c :: r) && r.all rest) := rfl
theorem name_ok {n1 n2 : Nat} {q1 q2 : UInt8 → Bool} (h1 : FnB n1 q1) (h2 : FnB n2 q2) (s : Str) (hb : s.length ≤ 4611686018427387904) (σ : AState) :
    RunF RR Tryz.prog n_syntax_name [.str s, .func (.func n1) [] [], .func (.func n2) [] []] σ (fun u σ' => u = .bool (nameB q1 q2 s) ∧ σ' = σ) := by
  refine RunV.wf fun hW => RunV.forget rfl ?_
  refine runF_intro hmx rf_syntax_name ?_
  have hE := sub_push hW (.cells [.func (.func n2) [] []] true)
  cases s with
  | nil =>
    simp -implicitDefEqProofs (maxDischargeDepth := 15) only [↓reduceIte, Yr, Ys, Yt, Yw, Yz, Wd, We, Wh, Wj, Wk, Wl, Wo, Wq, opA, Wv, Ww, Wx, Wy, Wz, Za, Zb, List.replicate, Zc, Zd, Ze, Vb, Vc, Vd, AV.cells, Zf, Zg, Nat.reduceAdd, Nat.reduceSub, Zk, binA, EndOk, resultA, oneOf, Zz, Vu, Vv, eq_self, Vy, i_syntax_name, c36_0, c36_1, c36_2, c36_3, c36_4, c36_5, c36_6, c36_7, Int.ofNat_zero, show decide ((0:Int) < 1) = true from rfl]
    exact ⟨rfl, hE⟩
  | cons c r =>
    have e1 : decide (((c :: r).length : Int) < 1) = false := decide_eq_false (by simp only [List.length_cons]; omega)
    simp only [List.length_cons] at e1
    rw [nameB_cons]
    simp -implicitDefEqProofs (maxDischargeDepth := 15) only [↓reduceIte, Yr, Ys, Yt, Yv, Wd, Wj, Wk, Wo, opA, Wv, Ww, Wx, Wy, Wz, Za, Zb, List.replicate, Zc, Zd, Ze, Vb, Vc, Vd, AV.cells, Zf, Zg, Nat.reduceAdd, Nat.reduceLeDiff, Nat.reduceSub, Zk, binA, Yd, Vu, Vv, Yj, eq_self, i_syntax_name, c36_0, c36_1, c36_2, c36_3, c36_4, c36_5, c36_6, c36_7, e1]
    rcases Nat.lt_or_ge 16 (r.length + 1) with hl | hl
    rotate_left
    · have e2 : decide (((c :: r).length : Int) > 16) = false := decide_eq_false (by simp only [List.length_cons]; omega)
      simp only [List.length_cons] at e2
      simp -implicitDefEqProofs (maxDischargeDepth := 15) only [↓reduceIte, Ys, Yt, Yv, Wb, Wd, We, opA, Wv, Ww, Wx, Wy, Wz, Za, Zb, Vb, Zh, Zi, Zq, Vu, Vv, Yj, Ym, Yn, e2]
      refine RunV.to (h1 c _) ?_
      cases hc : q1 c
      · simp -implicitDefEqProofs (maxDischargeDepth := 15) only [↓reduceIte, Yr, Ys, Yt, Yv, Yw, Yz, Wd, We, Wh, Wj, Wk, Wl, Wo, Wq, Wu, opA, Wv, Ww, Wx, Wy, Wz, Za, Zb, Vb, EndOk, resultA, oneOf, Zz, Yc, Yd, Vu, Vv, Yj, eq_self, Vy]
        exact ⟨by simp, hE⟩
      · simp -implicitDefEqProofs (maxDischargeDepth := 15) only [↓reduceIte, Ys, Yt, Yv, Wb, Wd, We, Wu, opA, Wv, Ww, Wx, Wy, Wz, Za, Zb, Zc, Zd, Ze, Vb, Vc, Vd, AV.cells, Zf, Zg, Zh, Zi, Nat.reduceAdd, Nat.reduceLeDiff, Zj, Zk, Zm, Zn, Zo, Zp, Zs, fillA, Zw, and_self, Yb, Yd, Vu, Vv, Yj, eq_self]
        have hW1 := hW.push (.cells [.func (.func n2) [] []] true)
        have hStr : Strs (((σ.push (.cells [.func (.func n2) [] []] true)).push (.cells [.str [97, 108, 108], .str [115, 111, 109, 101], .str [102, 97, 108, 115, 101], .str [110, 101, 120, 116], .str [97, 108, 119, 97, 121, 115], .str [117, 110, 116, 105, 108]] true))).get (some ((σ.push (.cells [.func (.func n2) [] []] true)).next, 0)) 6 1 barred :=
          .inr ⟨rfl, rfl, _, 0, _, true, rfl, Vg, by simp, rfl⟩
        refine RunV.to (index_strs_ok hStr (by omega) (c :: r)) ?_
        cases hin : barred.contains (c :: r)
        · have e3 : ((1 : Int).toNat ≤ r.length + 1) := by show 1 ≤ r.length + 1; omega
          simp -implicitDefEqProofs (maxDischargeDepth := 15) only [↓reduceIte, Yr, Ys, Yt, Wa, Wb, Wg, Wj, Wk, Wl, Wo, Wu, opA, Wv, Ww, Wx, Wy, Wz, Za, Zb, Vb, Vc, Vd, Zf, Zh, Zi, Nat.reduceLeDiff, Zm, Zn, Zo, Zw, Zz, Yc, Yd, natOf, upTo, bMax, bHigh, bLow, boundsA, evO, List.take_length]
          have hW2 := hW1.push (.cells [.str [97, 108, 108], .str [115, 111, 109, 101], .str [102, 97, 108, 115, 101], .str [110, 101, 120, 116], .str [97, 108, 119, 97, 121, 115], .str [117, 110, 116, 105, 108]] true)
          refine RunV.to (containsFunc_ok hmx (sz := 1) (ld := none) rf_slices_ContainsFunc_byte rf_slices_IndexFunc_byte (xs := r) (q := fun b => !q2 b) rfl (by simp only [List.length_cons] at hb; omega) (.inr rfl) fun k x hx => ⟨bI x, ⟨_, 0, _, _, rfl, Vg, ?_⟩, nameS1_ok h2 x _ _ ?_⟩) ?_
          · simp only [partA, Nat.mul_one, Nat.zero_add]; exact bytes_elem hx
          · rw [Vh (by simp only [AState.push_next]; omega), Vh (by simp only [AState.push_next]; omega), Vg]
          · simp -implicitDefEqProofs (maxDischargeDepth := 15) only [Yr, Ys, Yt, Wh, Wo, Wu, opA, Wv, Wx, Wy, Wz, Za, Zb, Vb, EndOk, resultA, oneOf, Zz]
            refine ⟨?_, fun i b e => sub_push hW2 _ i b (sub_push hW1 _ i b (hE i b e))⟩
            rw [show decide (r.length ≤ 15) = true from decide_eq_true (by omega)]
            simp [List.all_eq_not_any_not]
        · simp -implicitDefEqProofs (maxDischargeDepth := 15) only [↓reduceIte, Yr, Ys, Yt, Yz, Wh, Wj, Wk, Wl, Wo, Wq, Wu, opA, Wv, Ww, Wx, Wy, Wz, Za, Zb, Vb, EndOk, resultA, oneOf, Zz, Yb, Yd]
          exact ⟨by simp, fun i b e => sub_push hW1 _ i b (hE i b e)⟩
    · have e2 : decide (((c :: r).length : Int) > 16) = true := decide_eq_true (by simp only [List.length_cons]; omega)
      simp only [List.length_cons] at e2
      simp -implicitDefEqProofs (maxDischargeDepth := 15) only [↓reduceIte, Yr, Ys, Yt, Yw, Yz, Wd, We, Wh, Wj, Wk, Wl, Wo, Wq, opA, Wv, Ww, Wx, Wy, Wz, Za, Zb, Vb, EndOk, resultA, oneOf, Zz, Vu, Vv, eq_self, Vy, e2]
      exact ⟨by rw [show decide (r.length ≤ 15) = false from decide_eq_false (by omega)]; simp, hE⟩
theorem pred_ok (s : Str) (hb : s.length ≤ 4611686018427387904) (σ : AState) : RunF RR Tryz.prog n_syntax_Predicate [.str s] σ (fun u σ' => u = .bool (predB s) ∧ σ' = σ) := by
  refine runF_intro hmx rf_syntax_Predicate ?_
  simp -implicitDefEqProofs (maxDischargeDepth := 15) only [Yr, Ys, Yt, Wb, Wj, Wk, Wo, opA, Wv, Ww, Wx, Wy, Wz, Za, Zb, List.replicate, Zc, Zd, Ze, Vb, Zf, Zg, Zh, Zi, Nat.reduceSub, Zk, i_syntax_Predicate, c74_0, c74_1, c74_2]
  refine RunV.to (name_ok capital_ok letter_ok s hb σ) ?_
  simp -implicitDefEqProofs (maxDischargeDepth := 15) only [Yr, Ys, Yt, Wh, Wo, Wu, opA, Wv, Wx, Wy, Wz, Za, Zb, Vb, and_self, EndOk, resultA, oneOf, Zz, eq_self, predB]
theorem fun_ok (s : Str) (hb : s.length ≤ 4611686018427387904) (σ : AState) : RunF RR Tryz.prog n_syntax_Function [.str s] σ (fun u σ' => u = .bool (funB s) ∧ σ' = σ) := by
  refine runF_intro hmx rf_syntax_Function ?_
  simp -implicitDefEqProofs (maxDischargeDepth := 15) only [Yr, Ys, Yt, Wb, Wj, Wk, Wo, opA, Wv, Ww, Wx, Wy, Wz, Za, Zb, List.replicate, Zc, Zd, Ze, Vb, Zf, Zg, Zh, Zi, Nat.reduceSub, Zk, i_syntax_Function, c100_0, c100_1, c100_2]
  refine RunV.to (name_ok fnS1_ok letter_ok s hb σ) ?_
  simp -implicitDefEqProofs (maxDischargeDepth := 15) only [Yr, Ys, Yt, Wh, Wo, Wu, opA, Wv, Wx, Wy, Wz, Za, Zb, Vb, and_self, EndOk, resultA, oneOf, Zz, eq_self, funB]
theorem var_ok (s : Str) (hb : s.length ≤ 4611686018427387904) (σ : AState) : RunF RR Tryz.prog n_syntax_Variable [.str s] σ (fun u σ' => u = .bool (varB s) ∧ σ' = σ) := by
  refine runF_intro hmx rf_syntax_Variable ?_
  simp -implicitDefEqProofs (maxDischargeDepth := 15) only [Yr, Ys, Yt, Wb, Wj, Wk, Wo, opA, Wv, Ww, Wx, Wy, Wz, Za, Zb, List.replicate, Zc, Zd, Ze, Vb, Zf, Zg, Zh, Zi, Nat.reduceSub, Zk, i_syntax_Variable, c23_0, c23_1, c23_2]
  refine RunV.to (name_ok varS1_ok digit_ok s hb σ) ?_
  simp -implicitDefEqProofs (maxDischargeDepth := 15) only [Yr, Ys, Yt, Wh, Wo, Wu, opA, Wv, Wx, Wy, Wz, Za, Zb, Vb, and_self, EndOk, resultA, oneOf, Zz, eq_self, varB]
theorem none_ok (s : Str) (σ : AState) : RunF RR Tryz.prog n_syntax_none [.str s] σ (fun u σ' => u = .bool s.isEmpty ∧ σ' = σ) := by
  refine runF_intro hmx rf_syntax_none ?_
  simp -implicitDefEqProofs (maxDischargeDepth := 15) only [Yr, Ys, Yt, Wh, Wj, Wk, Wo, opA, Wv, Ww, Wx, Wy, Wz, Za, Zb, List.replicate, Zc, Zd, Ze, Vb, Zf, Zg, Nat.reduceSub, Zk, binA, and_true, EndOk, resultA, oneOf, Zz, eq_self, i_syntax_none, c106_0, c106_1]
  cases s <;> rfl
mutual
def Do.T.len : T → Nat
  | .mk _ n ar => n.length + T.lens ar
def Do.T.lens : List T → Nat
  | [] => 0
  | t :: r => t.len + T.lens r
end
theorem lens_mem {l : List T} {t : T} (h : t ∈ l) : t.len ≤ T.lens l := by
  induction l with
  | nil => cases h
  | cons a r ih =>
    simp only [T.lens]
    rcases List.mem_cons.1 h with e | e
    · subst e; omega
    · have := ih e; omega
theorem rights_all (l : List T) : T.rights l = !l.any (fun t => !t.right) := by
  induction l with
  | nil => rfl
  | cons a r ih => simp only [T.rights, ih, List.any_cons]; cases a.right <;> simp
theorem term_ok : ∀ (m : Nat) (t : T), t.cnt ≤ m → m ≤ 1152921504606846976 → t.len ≤ 1152921504606846976 → ∀ (σ : AState) (xs : List AV), DAtL σ.get t.dv xs →
    RunF RR Tryz.prog n_syntax_term [.agg xs, .int .i64 0] σ (fun u σ' => u = .bool t.right ∧ σ' = σ) := by
  intro m
  induction m using Nat.strongRecOn with
  | _ m ih =>
  intro t ht hm hlen σ xs hD
  refine RunV.wf fun hW => RunV.forget rfl ?_
  refine runF_intro hmx rf_syntax_term ?_
  obtain ⟨v, nm, ar⟩ := t
  obtain ⟨o1, c1, z1, rfl, hA⟩ := T.cells hD
  simp only [T.cnt] at ht
  simp only [T.len] at hlen
  have hcl := cnts_len ar
  have hW1 := hW.push (.cells [.bool v, .str nm, .slice o1 ar.length c1 z1] true)
  have hE : Sub σ.get ((σ.push (.cells [.bool v, .str nm, .slice o1 ar.length c1 z1] true)).push (.cells [.int .i64 0] true)).get := (sub_push hW _).trans (sub_push hW1 _)
  cases v
  · simp -implicitDefEqProofs (maxDischargeDepth := 15) only [Yr, Ys, Yt, Wa, Wb, Wg, Wj, Wk, Wl, Wo, opA, Wv, Ww, Wx, Wy, Wz, Za, Zb, List.replicate, Zc, Zd, Ze, Vb, Vc, Vd, AV.cells, Vg, Vh, Vi, partA, Zf, Zg, Zh, Zi, Nat.reduceAdd, Nat.reduceSub, Zk, Zl, Zq, Zr, i_syntax_term, c33_0, c33_1, c33_2, c33_3, c33_4, c33_5, c33_6, c33_7, c33_8]
    refine RunV.to (fun_ok nm (by omega) _) ?_
    cases hn : funB nm
    · simp -implicitDefEqProofs (maxDischargeDepth := 15) only [↓reduceIte, Yr, Ys, Yt, Yw, Wd, We, Wh, Wo, Wu, opA, Wv, Ww, Wx, Wy, Wz, Za, Zb, Vb, EndOk, resultA, oneOf, Zz, Yd, Vu, Vv, Vx]
      exact ⟨by simp [T.right, hn], hE⟩
    · cases h4 : decide ((ar.length : Int) ≤ 4)
      · simp -implicitDefEqProofs (maxDischargeDepth := 15) only [↓reduceIte, Yr, Ys, Yt, Yv, Yw, Wd, We, Wh, Wo, Wu, opA, Wv, Ww, Wx, Wy, Wz, Za, Zb, Vb, Vg, Vh, Vi, partA, Zk, Zq, Zr, binA, EndOk, resultA, oneOf, Zz, Yd, Vu, Vv, Yj, eq_self, Vx, h4]
        have : decide (ar.length ≤ 4) = false := by simp only [decide_eq_false_iff_not] at h4 ⊢; omega
        exact ⟨by simp only [T.right, hn, this]; simp, hE⟩
      · have h5 : decide (ar.length ≤ 4) = true := by simp only [decide_eq_true_eq] at h4 ⊢; omega
        simp -implicitDefEqProofs (maxDischargeDepth := 15) only [↓reduceIte, Ys, Yt, Yv, Wb, Wd, We, Wu, opA, Wv, Ww, Wx, Wy, Wz, Za, Zb, Vb, Vg, Vh, Vi, partA, Zh, Zi, Zk, Zq, Zr, binA, Vu, Vv, Yj, eq_self, h4]
        have hA' := hA.sub hE
        refine RunV.to (containsFunc_ok hmx (sz := 3) (ld := some 3) rf_slices_ContainsFunc_api_Term rf_slices_IndexFunc_api_Term (xs := ar) (q := fun t => !t.right) rfl (by omega) hA'.2.1 fun k x hx => ?_) ?_
        · obtain ⟨rfl, i, off, cs, w, rfl, hg, hl3, xs, hxs, hd⟩ := hA'.elem hx
          refine ⟨.agg xs, ⟨i, off, cs, w, rfl, hg, ?_⟩, ?_⟩
          · simp only [partA]; rw [if_pos hl3, hxs]
          · have hxm := List.mem_of_getElem? hx
            have hc := cnts_mem hxm
            have hl := lens_mem hxm
            refine RunV.wf fun hW2 => RunV.forget rfl ?_
            refine runF_intro hmx rf_syntax_termS1 ?_
            have hl : 3 ≤ xs.length := by rw [hd.length, T.dv_len]; omega
            have ht3 : xs.take 3 = xs := List.take_of_length_le (by rw [hd.length, T.dv_len]; omega)
            have hb : (((σ.push (.cells [.bool false, .str nm, .slice (some (i, off)) ar.length c1 3] true)).push (.cells [.int .i64 0] true)).push (.cells xs true)).get (σ.push (.cells [.bool false, .str nm, .slice (some (i, off)) ar.length c1 3] true)).next = some (.cells [.int .i64 0] true) := by
              rw [Vh (by simp only [AState.push_next]; omega), Vg]
            simp -implicitDefEqProofs (maxDischargeDepth := 15) only [↓reduceIte, Yr, Ys, Yt, Wb, Wj, Wk, Wo, opA, Wv, Ww, Wx, Wy, Wz, Za, Zb, List.replicate, Zc, Zd, Vb, Vc, Vd, AV.cells, Vg, Vh, Vi, partA, Zf, Zg, Zh, Zi, Nat.reduceAdd, Nat.reduceSub, Zk, Zm, Zq, i_syntax_termS1, c48_0, c48_1, c48_2, hl, ht3]
            refine RunV.to (ih x.cnt (by omega) x (Nat.le_refl _) (by omega) (by omega) _ _ (DAtL.sub (sub_push hW2 _) _ _ hd)) ?_
            simp -implicitDefEqProofs (maxDischargeDepth := 15) only [Yr, Ys, Yt, Wh, Wo, Wu, opA, Wv, Wx, Wy, Wz, Za, Zb, Vb, true_and, EndOk, resultA, oneOf, Zz, eq_self]
            exact sub_push hW2 _
        · simp -implicitDefEqProofs (maxDischargeDepth := 15) only [↓reduceIte, Yr, Ys, Yt, Yv, Wd, Wh, Wo, Wu, opA, Wv, Wx, Wy, Wz, Za, Zb, Vb, EndOk, resultA, oneOf, Zz, Vu, Vv, Yj, eq_self]
          exact ⟨by simp only [T.right, hn, h5, rights_all]; simp, hE⟩
  · cases h0 : ((ar.length : Int) == 0)
    · simp -implicitDefEqProofs (maxDischargeDepth := 15) only [↓reduceIte, Yr, Ys, Yt, Yw, Yz, Wd, We, Wh, Wj, Wk, Wl, Wo, Wq, opA, Wv, Ww, Wx, Wy, Wz, Za, Zb, List.replicate, Zc, Zd, Ze, Vb, Vc, Vd, AV.cells, Vg, Vh, Vi, partA, Zf, Zg, Nat.reduceAdd, Nat.reduceSub, Zk, Zl, Zq, Zr, binA, EndOk, resultA, oneOf, Zz, Yd, Vu, Vv, Vw, eq_self, Vx, i_syntax_term, c33_0, c33_1, c33_2, c33_3, c33_4, c33_5, c33_6, c33_7, c33_8, h0]
      refine ⟨?_, hE⟩
      have : ar.isEmpty = false := by
        cases ar with
        | nil => simp at h0
        | cons a r => rfl
      simp only [T.right, this]; simp
    · simp -implicitDefEqProofs (maxDischargeDepth := 15) only [↓reduceIte, Yr, Ys, Yt, Yv, Yz, Wb, Wd, We, Wj, Wk, Wl, Wo, opA, Wv, Ww, Wx, Wy, Wz, Za, Zb, List.replicate, Zc, Zd, Ze, Vb, Vc, Vd, AV.cells, Vg, Vh, Vi, partA, Zf, Zg, Zh, Zi, Nat.reduceAdd, Nat.reduceSub, Zk, Zl, Zq, Zr, binA, Vu, Vv, Yj, eq_self, i_syntax_term, c33_0, c33_1, c33_2, c33_3, c33_4, c33_5, c33_6, c33_7, c33_8, h0]
      have h1 : ar.isEmpty = true := by
        cases ar with
        | nil => rfl
        | cons a r => simp at h0; omega
      refine RunV.to (var_ok nm (by omega) _) ?_
      cases hv : varB nm
      · simp -implicitDefEqProofs (maxDischargeDepth := 15) only [↓reduceIte, Yr, Ys, Yt, Yv, Yw, Wd, We, Wh, Wo, Wq, Wu, opA, Wv, Ww, Wx, Wy, Wz, Za, Zb, Vb, Vg, partA, Zq, binA, EndOk, resultA, oneOf, Zz, Yd, Vu, Vv, Yj, eq_self, Vx, show ((0 : Int) == 1) = false from rfl]
        refine ⟨?_, hE⟩
        simp only [T.right, hv]; simp
      · simp -implicitDefEqProofs (maxDischargeDepth := 15) only [↓reduceIte, Yr, Ys, Yt, Yv, Yw, Wd, We, Wh, Wo, Wq, Wu, opA, Wv, Ww, Wx, Wy, Wz, Za, Zb, Vb, EndOk, resultA, oneOf, Zz, Vu, Vv, Vw, Yj, eq_self, Vy]
        refine ⟨?_, hE⟩
        simp only [T.right, h1, hv]; simp
end Go.Am
namespace Go.Am
variable {P : Program}
def TrOk (P : Program) : Tr AFunc → (Nat → Nat) → Prop
  | .nil, _ => True
  | .node v l r, φ => (∀ a, v = some a → resF P (φ 0) = some a) ∧ TrOk P l (fun k => φ (2 * k + 1)) ∧ TrOk P r (fun k => φ (2 * k + 2))
theorem trOk_get : ∀ (t : Tr AFunc) (φ : Nat → Nat), TrOk P t φ → ∀ f a, t.get f = some a → resF P (φ f) = some a
  | .nil, φ, _, f, a, h => by simp [Tr.get_nil] at h
  | .node v l r, φ, ⟨h0, hl, hr⟩, 0, a, h => h0 a (by rw [Tr.get_zero] at h; exact h)
  | .node v l r, φ, ⟨h0, hl, hr⟩, f + 1, a, h => by
    rw [Tr.get_succ] at h
    by_cases e : f % 2 = 0
    · rw [if_pos e] at h
      have := trOk_get l _ hl _ _ h
      simpa [show 2 * (f / 2) + 1 = f + 1 by omega] using this
    · rw [if_neg e] at h
      have := trOk_get r _ hr _ _ h
      simpa [show 2 * (f / 2) + 2 = f + 1 by omega] using this
end Go.Am
namespace Go.Am
open Go.Proofs
set_option maxRecDepth 100000
noncomputable def tabT : Tr AFunc := (.node none (.node none (.node (some i_law41_DescribeApart) (.node (some i_describe_Claim) (.node (some i_law41_variable) (.node (some i_describe_join) (.node (some i_cmp_Compare_string) (.node none (.node (some i_frame_missing) .nil .nil) .nil) .nil) (.node (some i_syntax_shapeS1) (.node (some i_istrconv_bool2_int) .nil .nil) .nil)) (.node (some i_holds_Valid) (.node (some i_describe_beginS6) .nil .nil) .nil)) (.node (some i_describe_Model) (.node (some i_kit_SameForm) (.node (some i_describe_beginS2) (.node (some i_describe_nameS1) .nil .nil) .nil) (.node (some i_describe_fitsS2) (.node (some i_slices_Index_string) .nil .nil) (.node (some i_slices_IndexFunc_api_Fact) .nil .nil))) (.node (some i_slices_Grow_api_Form) .nil (.node (some i_syntax_letter) .nil (.node (some i_frame_ValidS1) .nil .nil))))) (.node (some i_kit_SameSeq) (.node (some i_describe_Read) (.node (some i_strconv_Itoa) (.node (some i_kit_SameTerms) (.node (some i_slices_IndexFunc_api_Term) .nil .nil) .nil) (.node none (.node (some i_stringslite_IndexByte) .nil .nil) .nil)) (.node (some i_law30_variable) (.node (some i_describe_term) (.node (some i_slices_Contains_string) .nil .nil) .nil) (.node (some i_syntax_name) .nil (.node (some i_frame_relation) .nil .nil)))) (.node (some i_law30_bound) (.node (some i_describe_begin) (.node (some i_describe_reader_word) (.node (some i_istrconv_numDigits) .nil .nil) .nil) (.node (some i_cmp_Compare_int) .nil .nil)) (.node (some i_describe_fits) (.node (some i_syntax_rows) (.node (some i_syntax_FunctionS1) .nil .nil) .nil) (.node (some i_syntax_all) .nil (.node (some i_slices_Clone_int) .nil .nil)))))) (.node (some i_law30_Built) (.node (some i_describe_Proof) (.node (some i_law41_bound) (.node (some i_describe_whole) (.node (some i_syntax_byTerm) (.node (some i_syntax_termS1) (.node (some i_frame_missingS2) .nil .nil) .nil) .nil) (.node (some i_syntax_shapeS2) .nil .nil)) (.node (some i_describe_fact) (.node (some i_syntax_Predicate) .nil .nil) (.node (some i_strings_Index) .nil (.node (some i_frame_Valid) .nil .nil)))) (.node (some i_law30_term) (.node (some i_kit_SameMarks) (.node (some i_describe_patterns) (.node (some i_slices_IndexFunc_int) .nil .nil) .nil) (.node (some i_cmp_isNaN_uint8) (.node (some i_strings_indexFunc) .nil .nil) .nil)) (.node none (.node (some i_syntax_Nodes) (.node (some i_syntax_every) .nil .nil) .nil) (.node (some i_holds_kinds) .nil (.node (some i_frame_masks) .nil .nil))))) (.node (some i_kit_SameProof) (.node (some i_law41_step) (.node (some i_syntax_Compare) (.node (some i_strings_genSplit) .nil .nil) (.node (some i_describe_name) .nil .nil)) (.node (some i_syntax_fits) (.node (some i_describe_headS1) (.node (some i_syntax_nameS1) .nil .nil) (.node (some i_slices_ContainsFunc_api_Fact) .nil .nil)) (.node (some i_syntax_digit) .nil (.node (some i_frame_names) .nil .nil)))) (.node (some i_describe_text) (.node (some i_describe_OutlineS1) .nil (.node (some i_slices_CompareFunc_api_Form_api_Form) .nil (.node (some i_holds_worlds_ops) .nil .nil))) (.node (some i_cmp_Or_int) (.node none (.node (some i_istrconv_log10Pow2) .nil .nil) .nil) (.node (some i_syntax_high) .nil (.node (some i_slices_Index_int) .nil .nil))))))) (.node none (.node (some i_law41_awake) (.node (some i_law41_Proved) (.node (some i_law41_join) (.node none (.node (some i_syntax_lists_api_Term) (.node (some i_syntax_Function) (.node (some i_frame_missingS1) .nil .nil) .nil) .nil) (.node (some i_slices_ContainsFunc_api_Form) .nil .nil)) (.node (some i_describe_ModelS1) (.node (some i_describe_reader_formS1) .nil .nil) (.node (some i_strings_Count) .nil (.node (some i_holds_worlds_valid) .nil .nil)))) (.node (some i_law30_atom) (.node (some i_kit_SameProofs) (.node (some i_describe_beginS3) (.node (some i_strings_ContainsFunc) .nil .nil) .nil) (.node (some i_istrconv_FormatInt) (.node (some i_slices_IndexFunc_byte) .nil .nil) .nil)) (.node none (.node none (.node (some i_syntax_allS1) .nil .nil) .nil) (.node none .nil (.node (some i_slices_Contains_int) .nil .nil))))) (.node (some i_kit_SameTexts) (.node (some i_describe_Outline) (.node (some i_describe_list) (.node (some i_kit_SameInts) (.node (some i_slices_IndexFunc_api_Form) .nil .nil) .nil) (.node (some i_describe_fitsS1) .nil .nil)) (.node (some i_law30_apply) (.node (some i_slices_IndexFunc_describe_pattern) (.node (some i_slices_ContainsFunc_byte) .nil .nil) .nil) (.node (some i_syntax_VariableS1) .nil (.node (some i_frame_rising) .nil .nil)))) (.node (some i_syntax_Right) (.node (some i_describe_reader_form) (.node none (.node (some i_istrconv_formatBase10) .nil .nil) .nil) (.node (some i_slices_CompareFunc_api_Term_api_Term) .nil .nil)) (.node (some i_istrconv_Itoa) (.node (some i_syntax_term) (.node (some i_strings_IndexFunc) .nil .nil) .nil) (.node (some i_syntax_terms) .nil (.node (some i_frame_relationS1) .nil .nil)))))) (.node (some i_describe_Form) (.node (some i_syntax_Same) (.node (some i_law41_apply) (.node (some i_describe_ProofS1) (.node (some i_syntax_lists_api_Form) (.node none (.node (some i_frame_missingS3) .nil .nil) .nil) .nil) .nil) (.node (some i_describe_bits) (.node (some i_describe_reader_args) (.node (some i_stringslite_Index) .nil .nil) .nil) (.node (some i_describe_reader_wordS1) .nil (.node (some i_frame_Fits) .nil .nil)))) (.node (some i_law30_join) (.node (some i_strings_Split) (.node (some i_describe_beginS4) (.node (some i_istrconv_small) .nil .nil) .nil) (.node (some i_cmp_isNaN_string) .nil .nil)) (.node none (.node (some i_syntax_Depth) (.node (some i_syntax_termsS1) .nil .nil) .nil) (.node none .nil (.node (some i_frame_grow) .nil .nil))))) (.node (some i_law41_atom) (.node (some i_law41_leaf) (.node (some i_kit_SameForms) (.node (some i_describe_beginS1) .nil .nil) (.node (some i_slices_ContainsFunc_int) .nil .nil)) (.node (some i_syntax_shape) (.node (some i_holds_of) (.node (some i_syntax_small) .nil .nil) .nil) (.node (some i_syntax_capital) .nil .nil))) (.node (some i_slices_Concat_api_Form) (.node (some i_describe_head) (.node (some i_syntax_Variable) (.node (some i_cmp_isNaN_int) .nil .nil) .nil) (.node (some i_kit_SameTerm) .nil .nil)) (.node (some i_cmp_Compare_uint8) (.node (some i_slices_ContainsFunc_api_Term) (.node (some i_bits_Len64) .nil .nil) .nil) (.node (some i_syntax_none) .nil (.node (some i_frame_reach) .nil .nil))))))))
theorem tabOk : TrOk Go.Proofs.Tryz.prog tabT id := ⟨(by intro a h; cases h), ⟨(by intro a h; cases h), ⟨(by intro a h; cases h; exact rf_law41_DescribeApart), ⟨(by intro a h; cases h; exact rf_describe_Claim), ⟨(by intro a h; cases h; exact rf_law41_variable), ⟨(by intro a h; cases h; exact rf_describe_join), ⟨(by intro a h; cases h; exact rf_cmp_Compare_string), ⟨(by intro a h; cases h), ⟨(by intro a h; cases h; exact rf_frame_missing), trivial, trivial⟩, trivial⟩, trivial⟩, ⟨(by intro a h; cases h; exact rf_syntax_shapeS1), ⟨(by intro a h; cases h; exact rf_istrconv_bool2_int), trivial, trivial⟩, trivial⟩⟩, ⟨(by intro a h; cases h; exact rf_holds_Valid), ⟨(by intro a h; cases h; exact rf_describe_beginS6), trivial, trivial⟩, trivial⟩⟩, ⟨(by intro a h; cases h; exact rf_describe_Model), ⟨(by intro a h; cases h; exact rf_kit_SameForm), ⟨(by intro a h; cases h; exact rf_describe_beginS2), ⟨(by intro a h; cases h; exact rf_describe_nameS1), trivial, trivial⟩, trivial⟩, ⟨(by intro a h; cases h; exact rf_describe_fitsS2), ⟨(by intro a h; cases h; exact rf_slices_Index_string), trivial, trivial⟩, ⟨(by intro a h; cases h; exact rf_slices_IndexFunc_api_Fact), trivial, trivial⟩⟩⟩, ⟨(by intro a h; cases h; exact rf_slices_Grow_api_Form), trivial, ⟨(by intro a h; cases h; exact rf_syntax_letter), trivial, ⟨(by intro a h; cases h; exact rf_frame_ValidS1), trivial, trivial⟩⟩⟩⟩⟩, ⟨(by intro a h; cases h; exact rf_kit_SameSeq), ⟨(by intro a h; cases h; exact rf_describe_Read), ⟨(by intro a h; cases h; exact rf_strconv_Itoa), ⟨(by intro a h; cases h; exact rf_kit_SameTerms), ⟨(by intro a h; cases h; exact rf_slices_IndexFunc_api_Term), trivial, trivial⟩, trivial⟩, ⟨(by intro a h; cases h), ⟨(by intro a h; cases h; exact rf_stringslite_IndexByte), trivial, trivial⟩, trivial⟩⟩, ⟨(by intro a h; cases h; exact rf_law30_variable), ⟨(by intro a h; cases h; exact rf_describe_term), ⟨(by intro a h; cases h; exact rf_slices_Contains_string), trivial, trivial⟩, trivial⟩, ⟨(by intro a h; cases h; exact rf_syntax_name), trivial, ⟨(by intro a h; cases h; exact rf_frame_relation), trivial, trivial⟩⟩⟩⟩, ⟨(by intro a h; cases h; exact rf_law30_bound), ⟨(by intro a h; cases h; exact rf_describe_begin), ⟨(by intro a h; cases h; exact rf_describe_reader_word), ⟨(by intro a h; cases h; exact rf_istrconv_numDigits), trivial, trivial⟩, trivial⟩, ⟨(by intro a h; cases h; exact rf_cmp_Compare_int), trivial, trivial⟩⟩, ⟨(by intro a h; cases h; exact rf_describe_fits), ⟨(by intro a h; cases h; exact rf_syntax_rows), ⟨(by intro a h; cases h; exact rf_syntax_FunctionS1), trivial, trivial⟩, trivial⟩, ⟨(by intro a h; cases h; exact rf_syntax_all), trivial, ⟨(by intro a h; cases h; exact rf_slices_Clone_int), trivial, trivial⟩⟩⟩⟩⟩⟩, ⟨(by intro a h; cases h; exact rf_law30_Built), ⟨(by intro a h; cases h; exact rf_describe_Proof), ⟨(by intro a h; cases h; exact rf_law41_bound), ⟨(by intro a h; cases h; exact rf_describe_whole), ⟨(by intro a h; cases h; exact rf_syntax_byTerm), ⟨(by intro a h; cases h; exact rf_syntax_termS1), ⟨(by intro a h; cases h; exact rf_frame_missingS2), trivial, trivial⟩, trivial⟩, trivial⟩, ⟨(by intro a h; cases h; exact rf_syntax_shapeS2), trivial, trivial⟩⟩, ⟨(by intro a h; cases h; exact rf_describe_fact), ⟨(by intro a h; cases h; exact rf_syntax_Predicate), trivial, trivial⟩, ⟨(by intro a h; cases h; exact rf_strings_Index), trivial, ⟨(by intro a h; cases h; exact rf_frame_Valid), trivial, trivial⟩⟩⟩⟩, ⟨(by intro a h; cases h; exact rf_law30_term), ⟨(by intro a h; cases h; exact rf_kit_SameMarks), ⟨(by intro a h; cases h; exact rf_describe_patterns), ⟨(by intro a h; cases h; exact rf_slices_IndexFunc_int), trivial, trivial⟩, trivial⟩, ⟨(by intro a h; cases h; exact rf_cmp_isNaN_uint8), ⟨(by intro a h; cases h; exact rf_strings_indexFunc), trivial, trivial⟩, trivial⟩⟩, ⟨(by intro a h; cases h), ⟨(by intro a h; cases h; exact rf_syntax_Nodes), ⟨(by intro a h; cases h; exact rf_syntax_every), trivial, trivial⟩, trivial⟩, ⟨(by intro a h; cases h; exact rf_holds_kinds), trivial, ⟨(by intro a h; cases h; exact rf_frame_masks), trivial, trivial⟩⟩⟩⟩⟩, ⟨(by intro a h; cases h; exact rf_kit_SameProof), ⟨(by intro a h; cases h; exact rf_law41_step), ⟨(by intro a h; cases h; exact rf_syntax_Compare), ⟨(by intro a h; cases h; exact rf_strings_genSplit), trivial, trivial⟩, ⟨(by intro a h; cases h; exact rf_describe_name), trivial, trivial⟩⟩, ⟨(by intro a h; cases h; exact rf_syntax_fits), ⟨(by intro a h; cases h; exact rf_describe_headS1), ⟨(by intro a h; cases h; exact rf_syntax_nameS1), trivial, trivial⟩, ⟨(by intro a h; cases h; exact rf_slices_ContainsFunc_api_Fact), trivial, trivial⟩⟩, ⟨(by intro a h; cases h; exact rf_syntax_digit), trivial, ⟨(by intro a h; cases h; exact rf_frame_names), trivial, trivial⟩⟩⟩⟩, ⟨(by intro a h; cases h; exact rf_describe_text), ⟨(by intro a h; cases h; exact rf_describe_OutlineS1), trivial, ⟨(by intro a h; cases h; exact rf_slices_CompareFunc_api_Form_api_Form), trivial, ⟨(by intro a h; cases h; exact rf_holds_worlds_ops), trivial, trivial⟩⟩⟩, ⟨(by intro a h; cases h; exact rf_cmp_Or_int), ⟨(by intro a h; cases h), ⟨(by intro a h; cases h; exact rf_istrconv_log10Pow2), trivial, trivial⟩, trivial⟩, ⟨(by intro a h; cases h; exact rf_syntax_high), trivial, ⟨(by intro a h; cases h; exact rf_slices_Index_int), trivial, trivial⟩⟩⟩⟩⟩⟩⟩, ⟨(by intro a h; cases h), ⟨(by intro a h; cases h; exact rf_law41_awake), ⟨(by intro a h; cases h; exact rf_law41_Proved), ⟨(by intro a h; cases h; exact rf_law41_join), ⟨(by intro a h; cases h), ⟨(by intro a h; cases h; exact rf_syntax_lists_api_Term), ⟨(by intro a h; cases h; exact rf_syntax_Function), ⟨(by intro a h; cases h; exact rf_frame_missingS1), trivial, trivial⟩, trivial⟩, trivial⟩, ⟨(by intro a h; cases h; exact rf_slices_ContainsFunc_api_Form), trivial, trivial⟩⟩, ⟨(by intro a h; cases h; exact rf_describe_ModelS1), ⟨(by intro a h; cases h; exact rf_describe_reader_formS1), trivial, trivial⟩, ⟨(by intro a h; cases h; exact rf_strings_Count), trivial, ⟨(by intro a h; cases h; exact rf_holds_worlds_valid), trivial, trivial⟩⟩⟩⟩, ⟨(by intro a h; cases h; exact rf_law30_atom), ⟨(by intro a h; cases h; exact rf_kit_SameProofs), ⟨(by intro a h; cases h; exact rf_describe_beginS3), ⟨(by intro a h; cases h; exact rf_strings_ContainsFunc), trivial, trivial⟩, trivial⟩, ⟨(by intro a h; cases h; exact rf_istrconv_FormatInt), ⟨(by intro a h; cases h; exact rf_slices_IndexFunc_byte), trivial, trivial⟩, trivial⟩⟩, ⟨(by intro a h; cases h), ⟨(by intro a h; cases h), ⟨(by intro a h; cases h; exact rf_syntax_allS1), trivial, trivial⟩, trivial⟩, ⟨(by intro a h; cases h), trivial, ⟨(by intro a h; cases h; exact rf_slices_Contains_int), trivial, trivial⟩⟩⟩⟩⟩, ⟨(by intro a h; cases h; exact rf_kit_SameTexts), ⟨(by intro a h; cases h; exact rf_describe_Outline), ⟨(by intro a h; cases h; exact rf_describe_list), ⟨(by intro a h; cases h; exact rf_kit_SameInts), ⟨(by intro a h; cases h; exact rf_slices_IndexFunc_api_Form), trivial, trivial⟩, trivial⟩, ⟨(by intro a h; cases h; exact rf_describe_fitsS1), trivial, trivial⟩⟩, ⟨(by intro a h; cases h; exact rf_law30_apply), ⟨(by intro a h; cases h; exact rf_slices_IndexFunc_describe_pattern), ⟨(by intro a h; cases h; exact rf_slices_ContainsFunc_byte), trivial, trivial⟩, trivial⟩, ⟨(by intro a h; cases h; exact rf_syntax_VariableS1), trivial, ⟨(by intro a h; cases h; exact rf_frame_rising), trivial, trivial⟩⟩⟩⟩, ⟨(by intro a h; cases h; exact rf_syntax_Right), ⟨(by intro a h; cases h; exact rf_describe_reader_form), ⟨(by intro a h; cases h), ⟨(by intro a h; cases h; exact rf_istrconv_formatBase10), trivial, trivial⟩, trivial⟩, ⟨(by intro a h; cases h; exact rf_slices_CompareFunc_api_Term_api_Term), trivial, trivial⟩⟩, ⟨(by intro a h; cases h; exact rf_istrconv_Itoa), ⟨(by intro a h; cases h; exact rf_syntax_term), ⟨(by intro a h; cases h; exact rf_strings_IndexFunc), trivial, trivial⟩, trivial⟩, ⟨(by intro a h; cases h; exact rf_syntax_terms), trivial, ⟨(by intro a h; cases h; exact rf_frame_relationS1), trivial, trivial⟩⟩⟩⟩⟩⟩, ⟨(by intro a h; cases h; exact rf_describe_Form), ⟨(by intro a h; cases h; exact rf_syntax_Same), ⟨(by intro a h; cases h; exact rf_law41_apply), ⟨(by intro a h; cases h; exact rf_describe_ProofS1), ⟨(by intro a h; cases h; exact rf_syntax_lists_api_Form), ⟨(by intro a h; cases h), ⟨(by intro a h; cases h; exact rf_frame_missingS3), trivial, trivial⟩, trivial⟩, trivial⟩, trivial⟩, ⟨(by intro a h; cases h; exact rf_describe_bits), ⟨(by intro a h; cases h; exact rf_describe_reader_args), ⟨(by intro a h; cases h; exact rf_stringslite_Index), trivial, trivial⟩, trivial⟩, ⟨(by intro a h; cases h; exact rf_describe_reader_wordS1), trivial, ⟨(by intro a h; cases h; exact rf_frame_Fits), trivial, trivial⟩⟩⟩⟩, ⟨(by intro a h; cases h; exact rf_law30_join), ⟨(by intro a h; cases h; exact rf_strings_Split), ⟨(by intro a h; cases h; exact rf_describe_beginS4), ⟨(by intro a h; cases h; exact rf_istrconv_small), trivial, trivial⟩, trivial⟩, ⟨(by intro a h; cases h; exact rf_cmp_isNaN_string), trivial, trivial⟩⟩, ⟨(by intro a h; cases h), ⟨(by intro a h; cases h; exact rf_syntax_Depth), ⟨(by intro a h; cases h; exact rf_syntax_termsS1), trivial, trivial⟩, trivial⟩, ⟨(by intro a h; cases h), trivial, ⟨(by intro a h; cases h; exact rf_frame_grow), trivial, trivial⟩⟩⟩⟩⟩, ⟨(by intro a h; cases h; exact rf_law41_atom), ⟨(by intro a h; cases h; exact rf_law41_leaf), ⟨(by intro a h; cases h; exact rf_kit_SameForms), ⟨(by intro a h; cases h; exact rf_describe_beginS1), trivial, trivial⟩, ⟨(by intro a h; cases h; exact rf_slices_ContainsFunc_int), trivial, trivial⟩⟩, ⟨(by intro a h; cases h; exact rf_syntax_shape), ⟨(by intro a h; cases h; exact rf_holds_of), ⟨(by intro a h; cases h; exact rf_syntax_small), trivial, trivial⟩, trivial⟩, ⟨(by intro a h; cases h; exact rf_syntax_capital), trivial, trivial⟩⟩⟩, ⟨(by intro a h; cases h; exact rf_slices_Concat_api_Form), ⟨(by intro a h; cases h; exact rf_describe_head), ⟨(by intro a h; cases h; exact rf_syntax_Variable), ⟨(by intro a h; cases h; exact rf_cmp_isNaN_int), trivial, trivial⟩, trivial⟩, ⟨(by intro a h; cases h; exact rf_kit_SameTerm), trivial, trivial⟩⟩, ⟨(by intro a h; cases h; exact rf_cmp_Compare_uint8), ⟨(by intro a h; cases h; exact rf_slices_ContainsFunc_api_Term), ⟨(by intro a h; cases h; exact rf_bits_Len64), trivial, trivial⟩, trivial⟩, ⟨(by intro a h; cases h; exact rf_syntax_none), trivial, ⟨(by intro a h; cases h; exact rf_frame_reach), trivial, trivial⟩⟩⟩⟩⟩⟩⟩⟩
end Go.Am
namespace Go.Am.Do
mutual
def T.tiny : T → Prop
  | .mk _ n az => n.length ≤ 1 ∧ T.tinys az
def T.tinys : List T → Prop
  | [] => True
  | t :: r => t.tiny ∧ T.tinys r
end
mutual
def F.tiny : F → Prop
  | .mk op n az l => op < 256 ∧ n.length ≤ 1 ∧ T.tinys az ∧ F.tinys l
def F.tinys : List F → Prop
  | [] => True
  | f :: r => f.tiny ∧ F.tinys r
end
theorem tinys_all {l : List F} (h : ∀ f ∈ l, f.tiny) : F.tinys l := by
  induction l with
  | nil => trivial
  | cons f r ih => exact ⟨h f (by simp), ih fun g hg => h g (List.mem_cons_of_mem _ hg)⟩
theorem jn_length (x : Str) (r : List Str) (s : Str) : (jn (x :: r) s).length = x.length + (r.map (fun y => s.length + y.length)).sum := by
  induction r generalizing x with
  | nil => simp [jn_one]
  | cons y r ih => rw [jn_cons2]; simp only [List.length_append, ih, List.map_cons, List.sum_cons]; omega
mutual
theorem T.txt_len : ∀ t : T, t.tiny → t.txt.length + 5 ≤ 16 * t.cnt
  | .mk _ n [], h => by simp only [T.tiny] at h; simp only [T.txt, T.cnt, T.cnts]; omega
  | .mk _ n (a :: az), h => by
    simp only [T.tiny, T.tinys] at h
    have h1 := T.txt_len a h.2.1
    have h2 := T.txts_len az h.2.2
    simp only [T.txt, T.cnt, T.cnts]
    rw [jn_length, jn_and]
    simp only [List.map_cons, List.map_nil, List.sum_cons, List.sum_nil, List.length_append, List.length_cons, List.length_nil]
    omega
theorem T.txts_len : ∀ l : List T, T.tinys l → ((T.txts l).map (sAnd ++ ·)).flatten.length ≤ 16 * T.cnts l
  | [], _ => by simp [T.txts, T.cnts]
  | t :: r, h => by
    simp only [T.tinys] at h
    have h1 := T.txt_len t h.1
    have h2 := T.txts_len r h.2
    simp only [T.txts, T.cnts, List.map_cons, List.flatten_cons, List.length_append, List.length_cons, List.length_nil]
    omega
end
theorem headTxt_len {n : Str} {az : List T} (hn : n.length ≤ 1) (h : T.tinys az) : (headTxt n az).length ≤ 16 * (T.cnts az + 1) := by
  cases az with
  | nil => simp only [headTxt, T.cnts]; omega
  | cons a r =>
    have := T.txt_len (.mk false n (a :: r)) (by simp only [T.tiny]; exact ⟨hn, h⟩)
    simp only [T.txt, T.cnt] at this
    simp only [headTxt, T.txts]
    omega
theorem pat_len (op : Nat) : (pat op).1.length ≤ 11 ∧ (pat op).2.length ≤ 5 := by
  unfold pat
  split
  · rename_i p h
    have := List.mem_of_find?_eq_some h
    have key : ∀ p ∈ pats, p.2.1.length ≤ 11 ∧ p.2.2.length ≤ 5 := by decide
    exact key p this
  · simp
theorem F.head_len {op : Nat} {n : Str} {az : List T} {l : List F} (h : (F.mk op n az l).tiny) : (F.mk op n az l).head.1.length ≤ 16 * (T.cnts az + 1) ∧ (F.mk op n az l).head.2.length ≤ 5 := by
  simp only [F.tiny] at h
  simp only [F.head]
  have hp := pat_len op
  split
  · exact ⟨headTxt_len h.2.1 h.2.2.1, by simp⟩
  · split
    · rw [jn_length]
      simp only [List.map_cons, List.map_nil, List.sum_cons, List.sum_nil, List.length_cons, List.length_nil]
      omega
    · split
      · rw [jn_length]
        simp only [List.map_cons, List.map_nil, List.sum_cons, List.sum_nil, List.length_cons, List.length_nil]
        omega
      · omega
mutual
theorem F.txt_len : ∀ f : F, f.tiny → f.txt.length ≤ 40 * f.nodes
  | .mk op n az [], h => by
    have := F.head_len h
    simp only [F.txt, F.txts, F.nodes, F.nodess]; omega
  | .mk op n az [a], h => by
    have h1 := F.head_len h
    simp only [F.tiny, F.tinys] at h
    have h2 := F.txt_len a h.2.2.2.1
    simp only [F.txt, F.txts, F.nodes, F.nodess]
    rw [jn_length]
    simp only [List.map_cons, List.map_nil, List.sum_cons, List.sum_nil, List.length_cons, List.length_nil]
    omega
  | .mk op n az [a, b], h => by
    have h1 := F.head_len h
    simp only [F.tiny, F.tinys] at h
    have h2 := F.txt_len a h.2.2.2.1
    have h3 := F.txt_len b h.2.2.2.2.1
    simp only [F.txt, F.txts, F.nodes, F.nodess]
    rw [jn_length]
    simp only [List.map_cons, List.map_nil, List.sum_cons, List.sum_nil, List.length_cons, List.length_nil]
    omega
  | .mk op n az (a :: b :: c :: r), h => by
    have := F.head_len h
    simp only [F.txt, F.txts, F.nodes, F.nodess]; omega
end
theorem bTerm0_tiny (k : Nat) : (bTerm0 k).tiny := by
  unfold bTerm0
  repeat' split
  all_goals simp [tv, tf, T.tiny, T.tinys]
theorem bTerm_tiny (b : Nat) : (bTerm b).tiny := by
  have := bTerm0_tiny (b % 5)
  unfold bTerm
  split
  · simp [tf, T.tiny, T.tinys, this]
  · exact this
theorem bStep_tiny {s : List F} {x : Nat} (h : ∀ f ∈ s, f.tiny) : ∀ f ∈ bStep s x, f.tiny := by
  have push : ∀ f, f.tiny → ∀ g ∈ s ++ [f], g.tiny := fun f hf g hg => by
    rcases List.mem_append.1 hg with q | q
    · exact h g q
    · rw [List.mem_singleton] at q; subst q; exact hf
  have take : ∀ (n : Nat) (f : F), f.tiny → ∀ g ∈ s.take n ++ [f], g.tiny := fun n f hf g hg => by
    rcases List.mem_append.1 hg with q | q
    · exact h g (List.mem_of_mem_take q)
    · rw [List.mem_singleton] at q; subst q; exact hf
  have hd : ∀ n, F.tinys (s.drop n) := fun n => tinys_all fun f hf => h f (List.mem_of_mem_drop hf)
  have h1 := bTerm_tiny (x / 12)
  have h2 := bTerm_tiny (x / 12 / 3)
  unfold bStep
  split
  · exact push _ (by simp [bAtom, F.tiny, T.tinys, F.tinys])
  split
  · exact push _ (by simp [bAtom, F.tiny, T.tinys, F.tinys, h1])
  split
  · exact push _ (by simp [bAtom, F.tiny, T.tinys, F.tinys, h1, h2])
  split
  · exact push _ (by simp [F.tiny, T.tinys, F.tinys])
  split
  · refine take _ _ ?_
    simp only [F.tiny, T.tinys, true_and, List.length_nil, Nat.zero_le]
    exact ⟨by repeat' split
              all_goals omega, hd _⟩
  split
  · refine take _ _ ?_
    simp only [F.tiny, T.tinys, true_and, List.length_nil, Nat.zero_le]
    exact ⟨by repeat' split
              all_goals omega, hd _⟩
  split
  · refine take _ _ ?_
    simp only [F.tiny, T.tinys, true_and, List.length_cons, List.length_nil, Nat.zero_add, Nat.le_refl]
    exact ⟨by omega, hd _⟩
  · exact h
theorem built_tiny (l : List Nat) : (built l).tiny := by
  have key : ∀ (l : List Nat) (s : List F), (∀ f ∈ s, f.tiny) → ∀ f ∈ l.foldl bStep s, f.tiny := by
    intro l
    induction l with
    | nil => intro s h; exact h
    | cons x l ih => intro s h; exact ih _ (bStep_tiny h)
  have h := key (l.take 20) [] (fun _ h => by cases h)
  unfold built
  generalize (l.take 20).foldl bStep [] = s at h
  cases s with
  | nil => simp [F.tiny, T.tinys, F.tinys]
  | cons f r =>
    simp only
    have : ∀ (r : List F) (f : F), f.tiny → (∀ g ∈ r, g.tiny) → (untils f r).tiny := by
      intro r
      induction r with
      | nil => intro f hf _; exact hf
      | cons g r ih =>
        intro f hf hr
        exact ih (.mk 14 [] [] [f, g]) (by simp [F.tiny, T.tinys, F.tinys, hf, hr g (by simp)]) fun x hx => hr x (List.mem_cons_of_mem _ hx)
    exact this r f (h f (by simp)) fun g hg => h g (List.mem_cons_of_mem _ hg)
end Go.Am.Do
namespace Go.Am.Do
mutual
inductive Pf where
  | mk (rule : Str) (form : F) (label : Nat) (sub : List Pf) (marks : List (List Nat))
end
def pForm (l : List Nat) (i x : Nat) : F := built ((l.take (min (i / 2 + x % 4) l.length)).drop (i / 2))
def pMarks (x k : Nat) : List Nat := (List.range ((x + k) % 4)).map fun j => (x * j * 7 + k) % 1000
def pRule (x : Nat) : Str := if x % 3 = 0 then [97, 110, 100, 73] else if x % 3 = 1 then [114, 50] else [81]
def pStep (l : List Nat) (s : List Pf) (i x : Nat) : List Pf :=
  if x % 4 = 0 then s ++ [.mk [] (pForm l i x) (1 + x * 3) [] []]
  else if x % 4 = 1 then s ++ [.mk [63] (pForm l i x) 0 [] []]
  else if x / 4 % 5 ≤ s.length then s.take (s.length - x / 4 % 5) ++ [.mk (pRule x) (pForm l i x) 0 (s.drop (s.length - x / 4 % 5)) ((List.range (x / 4 % 5)).map (pMarks x))]
  else s
def provedS (l : List Nat) : Nat → List Pf
  | 0 => []
  | k + 1 => pStep l (provedS l k) k (l.getD k 0)
def proved (l : List Nat) : Pf := match (provedS l (min l.length 30)).getLast? with
  | some p => p
  | none => .mk [] (.mk 2 [] [] []) 1 [] []
mutual
def Pf.size : Pf → Nat
  | .mk _ _ _ s _ => 1 + Pf.sizes s
def Pf.sizes : List Pf → Nat
  | [] => 0
  | p :: r => p.size + Pf.sizes r
end
mutual
def Pf.high : Pf → Nat
  | .mk _ _ _ s _ => 1 + Pf.highs s
def Pf.highs : List Pf → Nat
  | [] => 0
  | p :: r => max p.high (Pf.highs r)
end
def isRule (r : Str) : Prop := r = [97, 110, 100, 73] ∨ r = [114, 50] ∨ r = [81]
mutual
def Pf.fit : Pf → Prop
  | .mk r f n s m => f.right = true ∧ f.tiny ∧ ((r = [] ∧ s = [] ∧ m = [] ∧ 1 ≤ n ∧ n ≤ 999) ∨ (r = [63] ∧ s = [] ∧ m = [] ∧ n = 0) ∨ (isRule r ∧ n = 0 ∧ s.length ≤ 4 ∧ m.length = s.length ∧ ∀ l ∈ m, l.length ≤ 3 ∧ ∀ k ∈ l, k ≤ 999)) ∧ Pf.fits s
def Pf.fits : List Pf → Prop
  | [] => True
  | p :: r => p.fit ∧ Pf.fits r
end
theorem psizes_append (a b : List Pf) : Pf.sizes (a ++ b) = Pf.sizes a + Pf.sizes b := by
  induction a with
  | nil => simp [Pf.sizes]
  | cons x a ih => simp only [List.cons_append, Pf.sizes, ih]; omega
theorem pfits_all {l : List Pf} : Pf.fits l ↔ ∀ p ∈ l, p.fit := by
  induction l with
  | nil => simp [Pf.fits]
  | cons x l ih => simp only [Pf.fits, ih, List.mem_cons, forall_eq_or_imp]
mutual
theorem Pf.high_size : ∀ p : Pf, p.high ≤ p.size
  | .mk _ _ _ s _ => by have := Pf.highs_sizes s; simp only [Pf.high, Pf.size]; omega
theorem Pf.highs_sizes : ∀ l : List Pf, Pf.highs l ≤ Pf.sizes l
  | [] => by simp [Pf.highs]
  | p :: r => by have := Pf.high_size p; have := Pf.highs_sizes r; simp only [Pf.highs, Pf.sizes]; omega
end
theorem pStep_fit {l : List Nat} {s : List Pf} {i x : Nat} (hx : x < 256) (h : ∀ p ∈ s, p.fit) : (∀ p ∈ pStep l s i x, p.fit) ∧ Pf.sizes (pStep l s i x) ≤ Pf.sizes s + 1 := by
  have hr : (pForm l i x).right = true := built_right _
  have ht : (pForm l i x).tiny := built_tiny _
  unfold pStep
  split
  · refine ⟨fun p hp => ?_, by rw [psizes_append]; simp [Pf.sizes, Pf.size]⟩
    rcases List.mem_append.1 hp with q | q
    · exact h p q
    · rw [List.mem_singleton] at q; subst q
      rw [Pf.fit, Pf.fits]
      exact ⟨hr, ht, .inl ⟨rfl, rfl, rfl, by omega, by omega⟩, trivial⟩
  split
  · refine ⟨fun p hp => ?_, by rw [psizes_append]; simp [Pf.sizes, Pf.size]⟩
    rcases List.mem_append.1 hp with q | q
    · exact h p q
    · rw [List.mem_singleton] at q; subst q
      rw [Pf.fit, Pf.fits]
      exact ⟨hr, ht, .inr (.inl ⟨rfl, rfl, rfl, rfl⟩), trivial⟩
  split
  · rename_i hm
    have hd : (s.drop (s.length - x / 4 % 5)).length = x / 4 % 5 := by simp; omega
    refine ⟨fun p hp => ?_, ?_⟩
    · rcases List.mem_append.1 hp with q | q
      · exact h p (List.mem_of_mem_take q)
      · rw [List.mem_singleton] at q; subst q
        rw [Pf.fit]
        refine ⟨hr, ht, .inr (.inr ⟨?_, rfl, by omega, by simp [hd], ?_⟩), pfits_all.2 fun p hp => h p (List.mem_of_mem_drop hp)⟩
        · unfold pRule isRule
          split
          · exact .inl rfl
          · split
            · exact .inr (.inl rfl)
            · exact .inr (.inr rfl)
        · intro m hm
          obtain ⟨k, _, rfl⟩ := List.mem_map.1 hm
          refine ⟨by simp [pMarks]; omega, fun y hy => ?_⟩
          unfold pMarks at hy
          obtain ⟨j, _, rfl⟩ := List.mem_map.1 hy
          have := Nat.mod_lt (x * j * 7 + k) (show 0 < 1000 by omega)
          omega
    · have e : Pf.sizes s = Pf.sizes (s.take (s.length - x / 4 % 5)) + Pf.sizes (s.drop (s.length - x / 4 % 5)) := by rw [← psizes_append, List.take_append_drop]
      rw [psizes_append, e]
      simp only [Pf.sizes, Pf.size]; omega
  · exact ⟨h, by omega⟩
theorem provedS_fit {l : List Nat} (hl : ∀ x ∈ l, x < 256) : ∀ k, (∀ p ∈ provedS l k, p.fit) ∧ Pf.sizes (provedS l k) ≤ k
  | 0 => ⟨fun p hp => by simp [provedS] at hp, by simp [provedS, Pf.sizes]⟩
  | k + 1 => by
    have h := provedS_fit hl k
    have hx : l.getD k 0 < 256 := by
      rcases Nat.lt_or_ge k l.length with q | q
      · simp only [List.getD, List.getElem?_eq_getElem q, Option.getD_some]
        exact hl _ (List.getElem_mem q)
      · simp [List.getD, List.getElem?_eq_none q]
    have := pStep_fit (l := l) (i := k) hx h.1
    exact ⟨this.1, by have := this.2; simp only [provedS]; omega⟩
theorem psize_mem {l : List Pf} {p : Pf} (h : p ∈ l) : p.size ≤ Pf.sizes l := by
  induction l with
  | nil => cases h
  | cons a r ih =>
    simp only [Pf.sizes]
    rcases List.mem_cons.1 h with e | e
    · subst e; omega
    · have := ih e; omega
theorem proved_fit {l : List Nat} (hl : ∀ x ∈ l, x < 256) : (proved l).fit ∧ (proved l).size ≤ 30 := by
  have h := provedS_fit hl (min l.length 30)
  unfold proved
  split
  · rename_i p hp
    have hm := List.mem_of_getLast? hp
    exact ⟨h.1 p hm, by have := psize_mem hm; omega⟩
  · rw [Pf.fit, Pf.fits, Pf.size, Pf.sizes, F.tiny, T.tinys, F.tinys]
    exact ⟨⟨rfl, ⟨by omega, by simp, trivial, trivial⟩, .inl ⟨rfl, rfl, rfl, by omega, by omega⟩, trivial⟩, by omega⟩
def numS (n : Nat) : Str := if n < 10 then [UInt8.ofNat (48 + n)] else if n < 100 then [UInt8.ofNat (48 + n / 10), UInt8.ofNat (48 + n % 10)] else [UInt8.ofNat (48 + n / 100), UInt8.ofNat (48 + n / 10 % 10), UInt8.ofNat (48 + n % 10)]
abbrev sEnding : Str := [101, 110, 100, 105, 110, 103]
abbrev sComma : Str := [44, 32]
abbrev sNum : Str := [58, 32]
abbrev sAssume : Str := [97, 115, 115, 117, 109, 101, 32]
abbrev sStill : Str := [44, 32, 115, 116, 105, 108, 108, 32, 116, 111, 32, 115, 104, 111, 119]
abbrev sBy : Str := [44, 32, 98, 121, 32]
abbrev sFrom : Str := [32, 102, 114, 111, 109, 32]
def listS (m : List Nat) : Str := jn (m.map numS) sAnd
def useS (n : Nat) (m : List Nat) : Str := match m with
  | [] => numS n
  | m => jn [numS n, sEnding, listS m] sp
def usesS (k : Nat) : List Pf → List (List Nat) → List Str
  | p :: r, m :: ms => useS (k + p.size) m :: usesS (k + p.size) r ms
  | _, _ => []
def lineP (N : Nat) (r : Str) (f : F) (n : Nat) (us : List Str) : Str :=
  numS N ++ sNum ++ (if r = [] then sAssume ++ numS n ++ sComma ++ f.txt else if r = [63] then f.txt ++ sStill else match us with
    | [] => f.txt ++ sBy ++ r
    | us => f.txt ++ sBy ++ r ++ sFrom ++ jn us sComma)
mutual
def Pf.lines (k : Nat) : Pf → List Str
  | .mk r f n s m => Pf.liness k s ++ [lineP (k + Pf.sizes s + 1) r f n (usesS k s m)]
def Pf.liness (k : Nat) : List Pf → List Str
  | [] => []
  | p :: r => p.lines k ++ Pf.liness (k + p.size) r
end
mutual
theorem Pf.lines_len : ∀ (p : Pf) (k : Nat), (p.lines k).length = p.size
  | .mk r f n s m, k => by have := Pf.liness_len s k; simp only [Pf.lines, List.length_append, List.length_cons, List.length_nil, Pf.size]; omega
theorem Pf.liness_len : ∀ (l : List Pf) (k : Nat), (Pf.liness k l).length = Pf.sizes l
  | [], k => by simp [Pf.liness, Pf.sizes]
  | p :: r, k => by have := Pf.lines_len p k; have := Pf.liness_len r (k + p.size); simp only [Pf.liness, List.length_append, Pf.sizes]; omega
end
theorem liness_append (k : Nat) (a b : List Pf) : Pf.liness k (a ++ b) = Pf.liness k a ++ Pf.liness (k + Pf.sizes a) b := by
  induction a generalizing k with
  | nil => simp [Pf.liness, Pf.sizes]
  | cons x a ih => simp only [List.cons_append, Pf.liness, ih, Pf.sizes, List.append_assoc, Nat.add_assoc]
theorem liness_take (k : Nat) {l : List Pf} {i : Nat} {p : Pf} (h : l[i]? = some p) : Pf.liness k (l.take (i + 1)) = Pf.liness k (l.take i) ++ p.lines (k + Pf.sizes (l.take i)) := by
  rw [List.take_add_one, h, liness_append]
  simp [Pf.liness]
theorem usesS_append (k : Nat) (a b : List Pf) (m n : List (List Nat)) (h : a.length = m.length) : usesS k (a ++ b) (m ++ n) = usesS k a m ++ usesS (k + Pf.sizes a) b n := by
  induction a generalizing k m with
  | nil =>
    have : m = [] := List.length_eq_zero_iff.1 h.symm
    subst this
    simp [usesS, Pf.sizes]
  | cons x a ih =>
    cases m with
    | nil => simp at h
    | cons y m => simp only [List.cons_append, usesS, Pf.sizes]; rw [ih _ _ (by simpa using h), Nat.add_assoc]
theorem usesS_take (k : Nat) {l : List Pf} {ms : List (List Nat)} {i : Nat} {p : Pf} {m : List Nat} (h : l[i]? = some p) (hm : ms[i]? = some m) : usesS k (l.take (i + 1)) (ms.take (i + 1)) = usesS k (l.take i) (ms.take i) ++ [useS (k + Pf.sizes (l.take i) + p.size) m] := by
  have h1 : i < l.length := by
    rcases Nat.lt_or_ge i l.length with q | q
    · exact q
    · rw [List.getElem?_eq_none q] at h; cases h
  have h2 : i < ms.length := by
    rcases Nat.lt_or_ge i ms.length with q | q
    · exact q
    · rw [List.getElem?_eq_none q] at hm; cases hm
  rw [List.take_add_one, List.take_add_one, h, hm, Option.toList_some, Option.toList_some, usesS_append _ _ _ _ _ (by simp; omega)]
  simp [usesS]
theorem usesS_len (k : Nat) : ∀ (l : List Pf) (ms : List (List Nat)), l.length = ms.length → (usesS k l ms).length = l.length
  | [], ms, h => by cases ms <;> simp [usesS]
  | p :: r, [], h => by simp at h
  | p :: r, m :: ms, h => by simp only [usesS, List.length_cons]; rw [usesS_len _ r ms (by simpa using h)]
theorem numS_len (n : Nat) : 1 ≤ (numS n).length ∧ (numS n).length ≤ 3 := by
  unfold numS
  by_cases h : n < 10
  · rw [if_pos h]; simp
  · rw [if_neg h]
    by_cases h2 : n < 100
    · rw [if_pos h2]; simp
    · rw [if_neg h2]; simp
end Go.Am.Do
namespace Go.Am
open Go.RowKit
def LoopK (I : List AV → AState → Nat → Prop) (n : Nat) (Q : Ex → List AV → AState → Prop) : Ex → List AV → AState → Prop
  | .normal, ts, σ => ∃ m, m < n ∧ I ts σ m
  | .exit id, ts, σ => Q (.exit id) ts σ
  | .ret, ts, σ => Q .ret ts σ
theorem lk_n (I : List AV → AState → Nat → Prop) (n : Nat) (Q : Ex → List AV → AState → Prop) (ts : List AV) (σ : AState) : LoopK I n Q .normal ts σ = ∃ m, m < n ∧ I ts σ m := rfl
theorem lk_e (I : List AV → AState → Nat → Prop) (n : Nat) (Q : Ex → List AV → AState → Prop) (i : Nat) (ts : List AV) (σ : AState) : LoopK I n Q (.exit i) ts σ = Q (.exit i) ts σ := rfl
theorem lk_r (I : List AV → AState → Nat → Prop) (n : Nat) (Q : Ex → List AV → AState → Prop) (ts : List AV) (σ : AState) : LoopK I n Q .ret ts σ = Q .ret ts σ := rfl
theorem wp_loopK {Rs : Code → AC → Prop} {P : Program} {b : AC} {ts : List AV} {σ : AState} {Q : Ex → List AV → AState → Prop} (I : List AV → AState → Nat → Prop) (n : Nat) (h0 : I ts σ n)
    (hr : ∀ n ts σ, I ts σ n → wpC Rs P b ts σ (LoopK I n Q)) : wpC Rs P (.loop b) ts σ Q :=
  wp_loop I n h0 fun n ts σ h => wpC_mono b (hr n ts σ h) fun e ts' σ' he => by cases e <;> exact he
end Go.Am
namespace Go.Am.Do
def sh (k : Nat) (i : Int) : Int := if i = -1 then -1 else i + k
theorem sh_zero (i : Int) : sh 0 i = i := by unfold sh; split <;> omega
theorem sh_sh (a b : Nat) (i : Int) (hi : -1 ≤ i) : sh a (sh b i) = sh (a + b) i := by
  unfold sh
  split
  · simp
  · rw [if_neg (by omega)]; omega
theorem index_cons {b : UInt8} {l sub : Str} (h : sub.isPrefixOf (b :: l) = false) : Lib.index (b :: l) sub = sh 1 (Lib.index l sub) := by
  rw [Lib.index, h]
  unfold sh
  by_cases q : Lib.index l sub = -1
  · simp [q]
  · simp [q]
theorem index_skip {c : UInt8} {t : Str} : ∀ (w r : Str), c ∉ w → Lib.index (w ++ r) (c :: t) = sh w.length (Lib.index r (c :: t))
  | [], r, _ => by simp [sh_zero]
  | b :: w, r, h => by
    simp only [List.mem_cons, not_or] at h
    have h1 : (c :: t).isPrefixOf (b :: (w ++ r)) = false := by
      rw [List.isPrefixOf_cons_cons]
      have : (c == b) = false := by simp only [beq_eq_false_iff_ne]; exact h.1
      rw [this]; rfl
    rw [List.cons_append, index_cons h1, index_skip w r h.2, sh_sh _ _ _ (Lib.index_ge _ _), List.length_cons, Nat.add_comm]
theorem index_nil {c : UInt8} {t : Str} : Lib.index [] (c :: t) = -1 := by rw [Lib.index]; rfl
theorem index_no {c : UInt8} {t w : Str} (h : c ∉ w) : Lib.index w (c :: t) = -1 := by
  have := index_skip (t := t) w [] h
  rw [List.append_nil] at this
  rw [this, index_nil]; rfl
theorem index_here (s r : Str) (h : s ≠ []) : Lib.index (s ++ r) s = 0 := by
  cases s with
  | nil => exact absurd rfl h
  | cons c t =>
    rw [List.cons_append, Lib.index, if_pos]
    rw [List.isPrefixOf_iff_prefix]
    exact ⟨r, by simp⟩
theorem cut_at {s sep a b : Str} (hs : s = a ++ sep ++ b) (h : Lib.index s sep = a.length) : Lib.cut s sep = (a, b, true) := by
  unfold Lib.cut
  rw [h, if_pos (by omega)]
  subst hs
  simp [List.drop_append]
theorem cut_no {s sep : Str} (h : Lib.index s sep = -1) : Lib.cut s sep = (s, [], false) := by
  unfold Lib.cut
  rw [h, if_neg (by omega)]
abbrev wFrom : Str := [102, 114, 111, 109]
def NF (w : Str) : Prop := (32 : UInt8) ∉ w ∧ w ≠ wFrom
def Stop (r : Str) : Prop := r = [] ∨ (∃ t, r = 32 :: t) ∨ ∃ t, r = 44 :: t
def tl (ws : List Str) : Str := (ws.map (32 :: ·)).flatten
theorem tl_cons (w : Str) (ws : List Str) : tl (w :: ws) = 32 :: w ++ tl ws := by simp [tl]
theorem jn_tl (x : Str) (r : List Str) : jn (x :: r) sp = x ++ tl r := by
  induction r generalizing x with
  | nil => rw [jn_one]; simp [tl]
  | cons y r ih => rw [jn_cons2, ih y, tl_cons]; simp
end Go.Am.Do
namespace Go.Am.Do
theorem digit_of (x : Nat) (h : x < 10) : 48 ≤ (UInt8.ofNat (48 + x)).toNat ∧ (UInt8.ofNat (48 + x)).toNat ≤ 57 := by
  rw [UInt8.toNat_ofNat']
  omega
theorem numS_digits {n : Nat} (hn : n < 1000) : ∀ b ∈ numS n, 48 ≤ b.toNat ∧ b.toNat ≤ 57 := by
  intro b hb
  unfold numS at hb
  split at hb
  · simp only [List.mem_singleton] at hb; subst hb; exact digit_of _ (by omega)
  split at hb
  · simp only [List.mem_cons, List.not_mem_nil, or_false] at hb
    rcases hb with rfl | rfl
    · exact digit_of _ (by omega)
    · exact digit_of _ (by omega)
  · simp only [List.mem_cons, List.not_mem_nil, or_false] at hb
    rcases hb with rfl | rfl | rfl
    · exact digit_of _ (by omega)
    · exact digit_of _ (by omega)
    · exact digit_of _ (by omega)
theorem numS_no {n : Nat} (hn : n < 1000) {c : UInt8} (hc : c.toNat < 48) : c ∉ numS n := fun h => by
  have := (numS_digits hn c h).1; omega
theorem jn_mem {l : List Str} {s : Str} {b : UInt8} (h : b ∈ jn l s) : b ∈ s ∨ ∃ x ∈ l, b ∈ x := by
  induction l with
  | nil => rw [jn_nil] at h; cases h
  | cons x r ih =>
    cases r with
    | nil => rw [jn_one] at h; exact .inr ⟨x, by simp, h⟩
    | cons y r =>
      rw [jn_cons2, List.mem_append, List.mem_append] at h
      rcases h with (h | h) | h
      · exact .inr ⟨x, by simp, h⟩
      · exact .inl h
      · rcases ih h with q | ⟨z, hz, hb⟩
        · exact .inl q
        · exact .inr ⟨z, List.mem_cons_of_mem _ hz, hb⟩
def UseOk (i : Nat) (u : Str) (n : Nat) : Prop := (44 : UInt8) ∉ u ∧ u.length ≤ 1000 ∧ (Lib.cut u sp).1 = numS n ∧ 1 ≤ n ∧ n ≤ i
inductive UsesOk (i : Nat) : List Str → List Nat → Prop
  | nil : UsesOk i [] []
  | cons {u n us ns} : UseOk i u n → UsesOk i us ns → UsesOk i (u :: us) (n :: ns)
theorem UsesOk.len {i : Nat} {us : List Str} {ns : List Nat} (h : UsesOk i us ns) : us.length = ns.length := by
  induction h with
  | nil => rfl
  | cons _ _ ih => simp [ih]
theorem UsesOk.at' {i : Nat} {us : List Str} {ns : List Nat} (h : UsesOk i us ns) {j : Nat} {u : Str} (hj : us[j]? = some u) : ∃ n, ns[j]? = some n ∧ UseOk i u n := by
  induction h generalizing j with
  | nil => simp at hj
  | cons a _ ih =>
    cases j with
    | zero => simp only [List.getElem?_cons_zero, Option.some.injEq] at hj; subst hj; exact ⟨_, rfl, a⟩
    | succ j => simp only [List.getElem?_cons_succ] at hj ⊢; exact ih hj
def LineOk (i : Nat) (ℓ : Str) (ns : List Nat) : Prop := ∃ body, ℓ = numS (i + 1) ++ 58 :: 32 :: body ∧ ℓ.length ≤ 100000 ∧ (((Lib.cut body sFrom).2.2 = false ∧ ns = []) ∨ ∃ a us, Lib.cut body sFrom = (a, jn us sComma, true) ∧ us ≠ [] ∧ us.length ≤ 4 ∧ UsesOk i us ns)
def Lines (k : Nat) : List Str → List (List Nat) → Prop
  | [], [] => True
  | l :: r, n :: s => LineOk k l n ∧ Lines (k + 1) r s
  | _, _ => False
theorem Lines.append {k : Nat} {a c : List Str} {b d : List (List Nat)} (h : Lines k a b) (h2 : Lines (k + a.length) c d) : Lines k (a ++ c) (b ++ d) := by
  induction a generalizing k b with
  | nil =>
    cases b with
    | nil => simpa using h2
    | cons _ _ => exact h.elim
  | cons x a ih =>
    cases b with
    | nil => exact h.elim
    | cons y b =>
      refine ⟨h.1, ih h.2 ?_⟩
      rw [show k + 1 + a.length = k + (x :: a).length by simp; omega]; exact h2
theorem Lines.at' {k : Nat} {a : List Str} {b : List (List Nat)} (h : Lines k a b) {j : Nat} {ℓ : Str} (hj : a[j]? = some ℓ) : ∃ ns, b[j]? = some ns ∧ LineOk (k + j) ℓ ns := by
  induction a generalizing k b j with
  | nil => simp at hj
  | cons x a ih =>
    cases b with
    | nil => exact h.elim
    | cons y b =>
      cases j with
      | zero => simp only [List.getElem?_cons_zero, Option.some.injEq] at hj; subst hj; exact ⟨y, rfl, h.1⟩
      | succ j =>
        simp only [List.getElem?_cons_succ] at hj ⊢
        have := ih h.2 hj
        rwa [show k + 1 + j = k + (j + 1) by omega] at this
theorem Lines.len {k : Nat} {a : List Str} {b : List (List Nat)} (h : Lines k a b) : a.length = b.length := by
  induction a generalizing k b with
  | nil => cases b with
    | nil => rfl
    | cons _ _ => exact h.elim
  | cons x a ih => cases b with
    | nil => exact h.elim
    | cons y b => simp [ih h.2]
theorem size_pos (p : Pf) : 1 ≤ p.size := by obtain ⟨r, f, n, s, m⟩ := p; simp only [Pf.size]; omega
theorem useS_ok {n : Nat} {m : List Nat} {i : Nat} (h1 : 1 ≤ n) (h2 : n ≤ i) (hi : i < 1000) (hm : ∀ x ∈ m, x < 1000) (hl : (useS n m).length ≤ 1000) : UseOk i (useS n m) n := by
  have hn : n < 1000 := by omega
  have hsp : (32 : UInt8) ∉ numS n := numS_no hn (by decide)
  have hcm : (44 : UInt8) ∉ numS n := numS_no hn (by decide)
  refine ⟨?_, hl, ?_, h1, h2⟩
  · cases m with
    | nil => exact hcm
    | cons y r =>
      intro h
      simp only [useS] at h
      rcases jn_mem h with q | ⟨x, hx, hb⟩
      · revert q; decide
      · simp only [List.mem_cons, List.not_mem_nil, or_false] at hx
        rcases hx with rfl | rfl | rfl
        · exact hcm hb
        · revert hb; decide
        · unfold listS at hb
          rcases jn_mem hb with q | ⟨x, hx, hb⟩
          · revert q; decide
          · obtain ⟨z, hz, rfl⟩ := List.mem_map.1 hx
            exact numS_no (hm z hz) (by decide) hb
  · cases m with
    | nil => show (Lib.cut (numS n) sp).1 = _; rw [cut_no (index_no hsp)]
    | cons y r =>
      have e : useS n (y :: r) = numS n ++ sp ++ jn [sEnding, listS (y :: r)] sp := by simp only [useS]; rw [jn_cons2]
      rw [cut_at e ?_]
      rw [e, List.append_assoc, index_skip _ _ hsp, index_here _ _ (by simp)]
      unfold sh; rw [if_neg (by omega)]; omega
theorem UsesOk.mono {i j : Nat} {us : List Str} {ns : List Nat} (h : UsesOk i us ns) (hij : i ≤ j) : UsesOk j us ns := by
  induction h with
  | nil => exact .nil
  | cons a _ ih => exact .cons ⟨a.1, a.2.1, a.2.2.1, a.2.2.2.1, Nat.le_trans a.2.2.2.2 hij⟩ ih
end Go.Am.Do
namespace Go.Am.Do
theorem jnB {B : Nat} (sep : Str) : ∀ (ss : List Str), (∀ s ∈ ss, s.length ≤ B) → (jn ss sep).length ≤ ss.length * (B + sep.length)
  | [], _ => by simp [jn_nil]
  | [x], h => by rw [jn_one]; have := h x (by simp); simp only [List.length_cons, List.length_nil]; omega
  | x :: y :: r, h => by
    have h1 := h x (by simp)
    have h2 := jnB sep (y :: r) fun s hs => h s (List.mem_cons_of_mem _ hs)
    rw [jn_cons2]
    simp only [List.length_append, List.length_cons] at h2 ⊢
    rw [Nat.add_mul (r.length + 1), Nat.one_mul]
    omega
theorem useB (N : Nat) {mk : List Nat} (h : mk.length ≤ 3) : (useS N mk).length ≤ 100 := by
  have hn := numS_len N
  cases mk with
  | nil => show (numS N).length ≤ 100; omega
  | cons y yr =>
    have hlb := jnB (B := 3) sAnd ((y :: yr).map numS) (fun s hs => by obtain ⟨x, _, rfl⟩ := List.mem_map.1 hs; exact (numS_len x).2)
    have hlb2 : (listS (y :: yr)).length ≤ 30 := by
      unfold listS
      simp only [List.length_map, List.length_cons, List.length_nil] at hlb h ⊢
      refine Nat.le_trans hlb ?_
      have : yr.length ≤ 2 := by omega
      omega
    have := jnB (B := 30) sp [numS N, sEnding, listS (y :: yr)] (fun s hs => by
      simp only [List.mem_cons, List.not_mem_nil, or_false] at hs
      rcases hs with rfl | rfl | rfl
      · omega
      · simp
      · exact hlb2)
    simp only [List.length_cons, List.length_nil] at this
    exact Nat.le_trans this (by omega)
theorem jn_tl' {ws : List Str} (h : ws ≠ []) : tl ws = 32 :: jn ws sp := by
  cases ws with
  | nil => exact absurd rfl h
  | cons x r => rw [jn_tl, tl_cons]; simp
theorem rule_nf {r : Str} (h : isRule r) : NF r ∧ r ≠ [] ∧ r ≠ [63] ∧ r.length ≤ 4 := by
  rcases h with rfl | rfl | rfl <;> exact ⟨⟨by decide, by decide⟩, by decide, by decide, by decide⟩
end Go.Am.Do
namespace Go.Am.Do
def NoOf (A : List Str) : Prop := ∀ r, A ≠ wOf :: r
theorem var_fun {n : Str} (h1 : varB n = true) (h2 : funB n = true) : False := by
  match n, h1, h2 with
  | [], h, _ => simp [varB, nameB] at h
  | c :: r, h, h2 =>
    simp only [varB, funB, nameB, Bool.and_eq_true, firstVar, firstFun, decide_eq_true_eq] at h h2
    have a := h.1.1.2.1
    have b := h2.1.1.2.2
    have := UInt8.le_iff_toNat_le.1 a
    have := UInt8.le_iff_toNat_le.1 b
    simp at *
    omega
mutual
theorem T.ws_inj : ∀ (t u : T) (A B : List Str), t.right = true → u.right = true → NoOf A → NoOf B → t.ws ++ A = u.ws ++ B → t = u ∧ A = B
  | .mk v n [], .mk v' n' [], A, B, h, h', _, _, e => by
    simp only [T.ws, List.cons_append, List.nil_append, List.cons.injEq] at e
    obtain ⟨rfl, rfl⟩ := e
    refine ⟨?_, rfl⟩
    cases v <;> cases v' <;> simp only [T.right, Bool.and_eq_true] at h h'
    · rfl
    · exact (var_fun h'.2 h.1.1).elim
    · exact (var_fun h.2 h'.1.1).elim
    · rfl
  | .mk v n [], .mk v' n' (b :: bs), A, B, h, h', hA, _, e => by
    simp only [T.ws, List.cons_append, List.nil_append, List.cons.injEq] at e
    exact (hA _ e.2).elim
  | .mk v n (a :: az), .mk v' n' [], A, B, h, h', _, hB, e => by
    simp only [T.ws, List.cons_append, List.nil_append, List.cons.injEq] at e
    exact (hB _ e.2.symm).elim
  | .mk v n (a :: az), .mk v' n' (b :: bs), A, B, h, h', hA, hB, e => by
    have hv : v = false := by cases v; rfl; simp [T.right] at h
    have hv' : v' = false := by cases v'; rfl; simp [T.right] at h'
    subst hv; subst hv'
    simp only [T.right, T.rights, Bool.and_eq_true] at h h'
    simp only [T.ws, List.cons_append, List.cons.injEq, true_and, List.append_assoc] at e
    obtain ⟨rfl, e⟩ := e
    obtain ⟨rfl, e2⟩ := T.ws_inj a b _ _ h.2.1 h'.2.1 (T.wsr_noOf az A) (T.wsr_noOf bs B) e
    obtain ⟨rfl, e3⟩ := T.wsr_inj az bs A B h.2.2 h'.2.2 e2
    exact ⟨rfl, e3⟩
theorem T.wsr_noOf : ∀ (l : List T) (A : List Str), NoOf (T.wsr l ++ A)
  | [], A => fun r q => by simp only [T.wsr, List.cons_append, List.cons.injEq] at q; exact absurd q.1 (by decide)
  | t :: l, A => fun r q => by simp only [T.wsr, List.cons_append, List.cons.injEq] at q; exact absurd q.1 (by decide)
theorem T.wsr_inj : ∀ (l m : List T) (A B : List Str), T.rights l = true → T.rights m = true → T.wsr l ++ A = T.wsr m ++ B → l = m ∧ A = B
  | [], [], A, B, _, _, e => by simp only [T.wsr, List.cons_append, List.nil_append, List.cons.injEq, true_and] at e; exact ⟨rfl, e⟩
  | [], b :: bs, A, B, _, _, e => by simp only [T.wsr, List.cons_append, List.cons.injEq] at e; exact absurd e.1 (by decide)
  | a :: az, [], A, B, _, _, e => by simp only [T.wsr, List.cons_append, List.cons.injEq] at e; exact absurd e.1 (by decide)
  | a :: az, b :: bs, A, B, h, h', e => by
    simp only [T.rights, Bool.and_eq_true] at h h'
    simp only [T.wsr, List.cons_append, List.cons.injEq, true_and, List.append_assoc] at e
    obtain ⟨rfl, e2⟩ := T.ws_inj a b _ _ h.1 h'.1 (T.wsr_noOf az A) (T.wsr_noOf bs B) e
    obtain ⟨rfl, e3⟩ := T.wsr_inj az bs A B h.2 h'.2 e2
    exact ⟨rfl, e3⟩
end
theorem headWs_inj : ∀ {n n' : Str} {az bs : List T} {A B : List Str}, T.rights az = true → T.rights bs = true → NoOf A → NoOf B → headWs n az ++ A = headWs n' bs ++ B → n = n' ∧ az = bs ∧ A = B
  | n, n', [], [], A, B, _, _, _, _, e => by simp only [headWs, List.cons_append, List.nil_append, List.cons.injEq] at e; exact ⟨e.1, rfl, e.2⟩
  | n, n', [], b :: bs, A, B, _, _, hA, _, e => by simp only [headWs, List.cons_append, List.nil_append, List.cons.injEq] at e; exact (hA _ e.2).elim
  | n, n', a :: az, [], A, B, _, _, _, hB, e => by simp only [headWs, List.cons_append, List.nil_append, List.cons.injEq] at e; exact (hB _ e.2.symm).elim
  | n, n', a :: az, b :: bs, A, B, h, h', hA, hB, e => by
    simp only [T.rights, Bool.and_eq_true] at h h'
    simp only [headWs, List.cons_append, List.cons.injEq, true_and, List.append_assoc] at e
    obtain ⟨rfl, e⟩ := e
    obtain ⟨rfl, e2⟩ := T.ws_inj a b _ _ h.1 h'.1 (T.wsr_noOf az A) (T.wsr_noOf bs B) e
    obtain ⟨rfl, e3⟩ := T.wsr_inj az bs A B h.2 h'.2 e2
    exact ⟨rfl, rfl, e3⟩
theorem shape_cases {op : Nat} {n : Str} {az : List T} {l : List F} (h : (F.mk op n az l).shape = true) : F.shapes l = true ∧ T.rights az = true ∧
    ((op = 1 ∧ predB n = true ∧ l = []) ∨ (n = [] ∧ az = [] ∧ op = 2 ∧ l = []) ∨ (n = [] ∧ az = [] ∧ (op = 3 ∨ op = 10 ∨ op = 11 ∨ op = 12 ∨ op = 13) ∧ ∃ a, l = [a]) ∨
      (n = [] ∧ az = [] ∧ (op = 4 ∨ op = 5 ∨ op = 6 ∨ op = 7 ∨ op = 14) ∧ ∃ a b, l = [a, b]) ∨ (varB n = true ∧ az = [] ∧ (op = 8 ∨ op = 9) ∧ ∃ a, l = [a])) := by
  simp only [F.shape] at h
  unfold row at h
  split at h
  · cases h
  rename_i k a s e
  simp only [Bool.and_eq_true, beq_iff_eq, decide_eq_true_eq] at h
  obtain ⟨⟨⟨⟨h1, h2⟩, h3⟩, h4⟩, h5⟩ := h
  refine ⟨h5, h4, ?_⟩
  have has : ∀ {a : Nat}, az.length ≤ a → a = 0 → az = [] := fun q r => List.length_eq_zero_iff.1 (by omega)
  split at e
  · cases e; exact .inl ⟨by assumption, by simpa [nameK] using h1, List.length_eq_zero_iff.1 h3⟩
  split at e
  · cases e; exact .inr (.inl ⟨by simpa [nameK] using h1, has h2 rfl, by assumption, List.length_eq_zero_iff.1 h3⟩)
  split at e
  · cases e; exact .inr (.inr (.inl ⟨by simpa [nameK] using h1, has h2 rfl, by assumption, List.length_eq_one_iff.1 h3⟩))
  split at e
  · cases e; exact .inr (.inr (.inr (.inl ⟨by simpa [nameK] using h1, has h2 rfl, by assumption, two_of h3⟩)))
  split at e
  · cases e; exact .inr (.inr (.inr (.inr ⟨by simpa [nameK] using h1, has h2 rfl, by assumption, List.length_eq_one_iff.1 h3⟩)))
  · cases e
end Go.Am.Do
namespace Go.Am.Do
def kw (op : Nat) : List Str := if op = 8 then [wFor, wAll] else if op = 9 then [wFor, wSome] else [(pat op).1]
abbrev opsL : List Nat := [2, 3, 10, 11, 12, 13, 4, 5, 6, 7, 14, 8, 9]
theorem kw_two : ∀ a ∈ opsL, ∃ x r, kw a = x :: r ∧ 2 ≤ x.length := by
  intro a ha
  have : ∀ a ∈ opsL, 2 ≤ ((kw a).headD []).length ∧ kw a ≠ [] := by decide
  obtain ⟨h1, h2⟩ := this a ha
  cases e : kw a with
  | nil => exact absurd e h2
  | cons x r => rw [e] at h1; exact ⟨x, r, rfl, h1⟩
theorem kw_apart {a b : Nat} (ha : a ∈ opsL) (hb : b ∈ opsL) {P Q : List Str} (e : kw a ++ P = kw b ++ Q) : a = b := by
  have key : ∀ a ∈ opsL, ∀ b ∈ opsL, a = b ∨ (kw a)[0]? ≠ (kw b)[0]? ∨ ((kw a).length = 2 ∧ (kw b).length = 2 ∧ (kw a)[1]? ≠ (kw b)[1]?) := by decide
  obtain ⟨x, r, hx, _⟩ := kw_two a ha
  obtain ⟨y, s, hy, _⟩ := kw_two b hb
  rcases key a ha b hb with h | h | ⟨h1, h2, h3⟩
  · exact h
  · rw [hx, hy] at e h
    simp only [List.cons_append, List.cons.injEq] at e
    exact absurd (by simp [e.1]) h
  · have e1 : (kw a ++ P)[1]? = (kw b ++ Q)[1]? := by rw [e]
    rw [List.getElem?_append_left (by omega), List.getElem?_append_left (by omega)] at e1
    exact absurd e1 h3
theorem hws_kw {op : Nat} (h : op ≠ 1) (n : Str) (az : List T) (l : List F) : (F.mk op n az l).hws = kw op ++ (if op = 8 ∨ op = 9 then [n] else []) := by
  simp only [F.hws, kw, if_neg h]
  by_cases h8 : op = 8
  · subst h8; rfl
  by_cases h9 : op = 9
  · subst h9; rfl
  simp [h8, h9]
theorem btw_noOf {op : Nat} (h : op = 4 ∨ op = 5 ∨ op = 6 ∨ op = 7 ∨ op = 14) (A : List Str) : NoOf ((pat op).2 :: A) := by
  intro r q
  simp only [List.cons.injEq] at q
  rcases h with rfl | rfl | rfl | rfl | rfl <;> exact absurd q.1 (by decide)
theorem F.ws_inj : ∀ (m : Nat) (f g : F) (A B : List Str), f.nodes ≤ m → f.shape = true → g.shape = true → f.tiny → g.tiny → NoOf A → NoOf B → f.ws ++ A = g.ws ++ B → f = g ∧ A = B := by
  intro m
  induction m with
  | zero =>
    intro f g A B hm
    obtain ⟨op, n, az, l⟩ := f
    simp only [F.nodes] at hm
    omega
  | succ m ih =>
    intro f g A B hm hf hg tf tg hA hB e
    obtain ⟨op, n, az, l⟩ := f
    obtain ⟨op', n', bs, k⟩ := g
    obtain ⟨hs, ha, hc⟩ := shape_cases hf
    obtain ⟨hs', ha', hc'⟩ := shape_cases hg
    simp only [F.tiny] at tf tg
    simp only [F.nodes] at hm
    simp only [F.ws, List.append_assoc] at e
    have hops : op = 1 ∨ op ∈ opsL := by
      rcases hc with ⟨h, _⟩ | ⟨_, _, h, _⟩ | ⟨_, _, h, _⟩ | ⟨_, _, h, _⟩ | ⟨_, _, h, _⟩
      · exact .inl h
      all_goals (right; simp only [List.mem_cons, List.not_mem_nil, or_false]; omega)
    have hops' : op' = 1 ∨ op' ∈ opsL := by
      rcases hc' with ⟨h, _⟩ | ⟨_, _, h, _⟩ | ⟨_, _, h, _⟩ | ⟨_, _, h, _⟩ | ⟨_, _, h, _⟩
      · exact .inl h
      all_goals (right; simp only [List.mem_cons, List.not_mem_nil, or_false]; omega)
    have hne1 : ∀ {a : Nat}, a ∈ opsL → a ≠ 1 := fun h q => by subst q; revert h; decide
    have headL : ∀ (n : Str) (az : List T), ∃ r, headWs n az = n :: r := fun n az => by cases az <;> exact ⟨_, rfl⟩
    rcases hops with h1 | h1 <;> rcases hops' with h1' | h1'
    · subst h1; subst h1'
      have hl : l = [] := by rcases hc with ⟨_, _, h⟩ | ⟨_, _, h, _⟩ | ⟨_, _, h, _⟩ | ⟨_, _, h, _⟩ | ⟨_, _, h, _⟩ <;> first | exact h | (exfalso; omega)
      have hk : k = [] := by rcases hc' with ⟨_, _, h⟩ | ⟨_, _, h, _⟩ | ⟨_, _, h, _⟩ | ⟨_, _, h, _⟩ | ⟨_, _, h, _⟩ <;> first | exact h | (exfalso; omega)
      subst hl; subst hk
      simp only [F.hws, if_true, F.wss, List.nil_append] at e
      obtain ⟨rfl, rfl, e2⟩ := headWs_inj ha ha' hA hB e
      exact ⟨rfl, e2⟩
    · exfalso
      subst h1
      obtain ⟨r, hr⟩ := headL n az
      obtain ⟨x, s, hx, hx2⟩ := kw_two _ h1'
      rw [hws_kw (hne1 h1'), hx] at e
      simp only [F.hws, if_true, hr, List.cons_append, List.cons.injEq] at e
      rw [← e.1] at hx2; omega
    · exfalso
      subst h1'
      obtain ⟨r, hr⟩ := headL n' bs
      obtain ⟨x, s, hx, hx2⟩ := kw_two _ h1
      rw [hws_kw (hne1 h1), hx] at e
      simp only [F.hws, if_true, hr, List.cons_append, List.cons.injEq] at e
      rw [e.1] at hx2; omega
    · have e0 := e
      rw [hws_kw (hne1 h1), hws_kw (hne1 h1'), List.append_assoc, List.append_assoc] at e
      have ho := kw_apart h1 h1' e
      subst ho
      have e := List.append_cancel_left e
      rcases hc with ⟨h, _⟩ | ⟨rfl, rfl, h, rfl⟩ | ⟨rfl, rfl, h, x, rfl⟩ | ⟨rfl, rfl, h, x, y, rfl⟩ | ⟨hv, rfl, h, x, rfl⟩ <;>
        rcases hc' with ⟨h', _⟩ | ⟨rfl, rfl, h', rfl⟩ | ⟨rfl, rfl, h', x', rfl⟩ | ⟨rfl, rfl, h', x', y', rfl⟩ | ⟨hv', rfl, h', x', rfl⟩ <;> first | (exfalso; omega) | exact absurd h (hne1 h1) | skip
      · rw [if_neg (by omega)] at e
        simp only [F.wss, List.nil_append] at e
        exact ⟨rfl, e⟩
      · rw [if_neg (by omega)] at e
        simp only [F.wss, List.nil_append] at e
        simp only [F.shapes, Bool.and_true] at hs hs'
        simp only [F.tinys, and_true] at tf tg
        simp only [F.nodess] at hm
        obtain ⟨rfl, e2⟩ := ih x x' A B (by omega) hs hs' tf.2.2.2 tg.2.2.2 hA hB e
        exact ⟨rfl, e2⟩
      · rw [if_neg (by omega)] at e
        simp only [F.wss, List.nil_append, List.append_assoc, List.cons_append] at e
        simp only [F.shapes, Bool.and_true, Bool.and_eq_true] at hs hs'
        simp only [F.tinys, and_true] at tf tg
        simp only [F.nodess] at hm
        obtain ⟨rfl, e2⟩ := ih x x' _ _ (by omega) hs.1 hs'.1 tf.2.2.2.1 tg.2.2.2.1 (btw_noOf h _) (btw_noOf h _) e
        simp only [List.cons.injEq, true_and] at e2
        obtain ⟨rfl, e3⟩ := ih y y' _ _ (by omega) hs.2 hs'.2 tf.2.2.2.2 tg.2.2.2.2 hA hB e2
        exact ⟨rfl, e3⟩
      · rw [if_pos (by omega), if_pos (by omega)] at e
        simp only [F.wss, List.nil_append, List.cons_append, List.cons.injEq] at e
        simp only [F.shapes, Bool.and_true] at hs hs'
        simp only [F.tinys, and_true] at tf tg
        simp only [F.nodess] at hm
        obtain ⟨rfl, e5⟩ := e
        obtain ⟨rfl, e2⟩ := ih x x' A B (by omega) hs hs' tf.2.2.2 tg.2.2.2 hA hB e5
        exact ⟨rfl, e2⟩
theorem sep_inj {c : UInt8} : ∀ {x y r s : Str}, c ∉ x → c ∉ y → (r = [] ∨ ∃ t, r = c :: t) → (s = [] ∨ ∃ t, s = c :: t) → x ++ r = y ++ s → x = y ∧ r = s
  | [], [], r, s, _, _, _, _, e => ⟨rfl, e⟩
  | [], b :: y, r, s, _, hy, hr, _, e => by
    rw [List.nil_append] at e
    rcases hr with h | ⟨t, h⟩
    · rw [h] at e; simp at e
    · rw [h, List.cons_append, List.cons.injEq] at e
      exact absurd (by simp [e.1]) hy
  | a :: x, [], r, s, hx, _, _, hs, e => by
    rw [List.nil_append] at e
    rcases hs with h | ⟨t, h⟩
    · rw [h] at e; simp at e
    · rw [h, List.cons_append, List.cons.injEq] at e
      exact absurd (by simp [e.1]) hx
  | a :: x, b :: y, r, s, hx, hy, hr, hs, e => by
    simp only [List.cons_append, List.cons.injEq] at e
    simp only [List.mem_cons, not_or] at hx hy
    obtain ⟨rfl, e⟩ := e
    obtain ⟨rfl, e2⟩ := sep_inj hx.2 hy.2 hr hs e
    exact ⟨rfl, e2⟩
theorem tl_head (ws : List Str) : tl ws = [] ∨ ∃ t, tl ws = 32 :: t := by
  cases ws with
  | nil => exact .inl rfl
  | cons w ws => exact .inr ⟨_, by rw [tl_cons]; rfl⟩
theorem tl_inj : ∀ {a b : List Str}, (∀ w ∈ a, (32 : UInt8) ∉ w) → (∀ w ∈ b, (32 : UInt8) ∉ w) → tl a = tl b → a = b
  | [], [], _, _, _ => rfl
  | [], y :: b, _, _, e => by rw [tl_cons] at e; simp [tl] at e
  | x :: a, [], _, _, e => by rw [tl_cons] at e; simp [tl] at e
  | x :: a, y :: b, ha, hb, e => by
    rw [tl_cons, tl_cons, List.cons_append, List.cons_append, List.cons.injEq] at e
    obtain ⟨rfl, e2⟩ := sep_inj (ha x (by simp)) (hb y (by simp)) (tl_head a) (tl_head b) e.2
    rw [tl_inj (fun w h => ha w (by simp [h])) (fun w h => hb w (by simp [h])) e2]
theorem jn_inj {a b : List Str} (ha : a ≠ []) (hb : b ≠ []) (na : ∀ w ∈ a, (32 : UInt8) ∉ w) (nb : ∀ w ∈ b, (32 : UInt8) ∉ w) (e : jn a sp = jn b sp) : a = b :=
  tl_inj na nb (by rw [jn_tl' ha, jn_tl' hb, e])
theorem F.txt_inj {f g : F} (hf : f.shape = true) (hg : g.shape = true) (tf : f.tiny) (tg : g.tiny) (e : f.txt = g.txt) : f = g := by
  have of' := F.shape_ok f hf
  have og := F.shape_ok g hg
  rw [F.txt_ws f of', F.txt_ws g og] at e
  have h := jn_inj (F.ws_ne f) (F.ws_ne g) (fun w h => (F.ws_nice f of' w h).2) (fun w h => (F.ws_nice g og w h).2) e
  exact (F.ws_inj f.nodes f g [] [] (Nat.le_refl _) hf hg tf tg (fun r q => by cases q) (fun r q => by cases q) (by rw [h])).1
end Go.Am.Do
namespace Go.Am.Do
theorem dig_inj {x y : Nat} (hx : x < 10) (hy : y < 10) (h : UInt8.ofNat (48 + x) = UInt8.ofNat (48 + y)) : x = y := by
  have := congrArg UInt8.toNat h
  rw [UInt8.toNat_ofNat', UInt8.toNat_ofNat'] at this
  omega
theorem numS_1 {n : Nat} (h : n < 10) : numS n = [UInt8.ofNat (48 + n)] := by unfold numS; rw [if_pos h]
theorem numS_2 {n : Nat} (h : ¬ n < 10) (h2 : n < 100) : numS n = [UInt8.ofNat (48 + n / 10), UInt8.ofNat (48 + n % 10)] := by unfold numS; rw [if_neg h, if_pos h2]
theorem numS_3 {n : Nat} (h : ¬ n < 10) (h2 : ¬ n < 100) : numS n = [UInt8.ofNat (48 + n / 100), UInt8.ofNat (48 + n / 10 % 10), UInt8.ofNat (48 + n % 10)] := by unfold numS; rw [if_neg h, if_neg h2]
theorem numS_inj {n m : Nat} (hn : n < 1000) (hm : m < 1000) (h : numS n = numS m) : n = m := by
  have hl := congrArg List.length h
  by_cases a : n < 10
  · by_cases b : m < 10
    · rw [numS_1 a, numS_1 b] at h
      simp only [List.cons.injEq, and_true] at h; exact dig_inj a b h
    · by_cases b2 : m < 100
      · rw [numS_1 a, numS_2 b b2] at hl; simp only [List.length_cons, List.length_nil] at hl; omega
      · rw [numS_1 a, numS_3 b b2] at hl; simp only [List.length_cons, List.length_nil] at hl; omega
  · by_cases a2 : n < 100
    · by_cases b : m < 10
      · rw [numS_2 a a2, numS_1 b] at hl; simp only [List.length_cons, List.length_nil] at hl; omega
      · by_cases b2 : m < 100
        · rw [numS_2 a a2, numS_2 b b2] at h
          simp only [List.cons.injEq, and_true] at h
          have h1 := dig_inj (by omega) (by omega) h.1
          have h2 := dig_inj (by omega) (by omega) h.2
          omega
        · rw [numS_2 a a2, numS_3 b b2] at hl; simp only [List.length_cons, List.length_nil] at hl; omega
    · by_cases b : m < 10
      · rw [numS_3 a a2, numS_1 b] at hl; simp only [List.length_cons, List.length_nil] at hl; omega
      · by_cases b2 : m < 100
        · rw [numS_3 a a2, numS_2 b b2] at hl; simp only [List.length_cons, List.length_nil] at hl; omega
        · rw [numS_3 a a2, numS_3 b b2] at h
          simp only [List.cons.injEq, and_true] at h
          have h1 := dig_inj (by omega) (by omega) h.1
          have h2 := dig_inj (by omega) (by omega) h.2.1
          have h3 := dig_inj (by omega) (by omega) h.2.2
          omega
def tg (sep : Str) (ws : List Str) : Str := (ws.map (sep ++ ·)).flatten
theorem tg_cons (sep w : Str) (ws : List Str) : tg sep (w :: ws) = sep ++ (w ++ tg sep ws) := by simp [tg]
theorem jn_tg (sep x : Str) (r : List Str) : jn (x :: r) sep = x ++ tg sep r := by
  induction r generalizing x with
  | nil => rw [jn_one]; simp [tg]
  | cons y r ih => rw [jn_cons2, ih y, tg_cons]; simp
theorem tg_head (c : UInt8) (s : Str) (ws : List Str) : tg (c :: s) ws = [] ∨ ∃ t, tg (c :: s) ws = c :: t := by
  cases ws with
  | nil => exact .inl rfl
  | cons w ws => exact .inr ⟨_, by rw [tg_cons]; rfl⟩
theorem tg_inj {c : UInt8} {s : Str} : ∀ {a b : List Str}, (∀ w ∈ a, c ∉ w) → (∀ w ∈ b, c ∉ w) → tg (c :: s) a = tg (c :: s) b → a = b
  | [], [], _, _, _ => rfl
  | [], y :: b, _, _, e => by rw [tg_cons] at e; simp [tg] at e
  | x :: a, [], _, _, e => by rw [tg_cons] at e; simp [tg] at e
  | x :: a, y :: b, ha, hb, e => by
    rw [tg_cons, tg_cons] at e
    have e := List.append_cancel_left e
    obtain ⟨rfl, e2⟩ := sep_inj (ha x (by simp)) (hb y (by simp)) (tg_head c s a) (tg_head c s b) e
    rw [tg_inj (fun w h => ha w (by simp [h])) (fun w h => hb w (by simp [h])) e2]
theorem jng_inj {c : UInt8} {s : Str} {a b : List Str} (ha : a ≠ []) (hb : b ≠ []) (na : ∀ w ∈ a, c ∉ w) (nb : ∀ w ∈ b, c ∉ w) (e : jn a (c :: s) = jn b (c :: s)) : a = b := by
  match a, b, ha, hb with
  | x :: a, y :: b, _, _ =>
    rw [jn_tg, jn_tg] at e
    obtain ⟨rfl, e2⟩ := sep_inj (na x (by simp)) (nb y (by simp)) (tg_head c s a) (tg_head c s b) e
    rw [tg_inj (fun w h => na w (by simp [h])) (fun w h => nb w (by simp [h])) e2]
theorem map_numS_inj : ∀ {a b : List Nat}, (∀ x ∈ a, x < 1000) → (∀ x ∈ b, x < 1000) → a.map numS = b.map numS → a = b
  | [], [], _, _, _ => rfl
  | [], y :: b, _, _, e => by simp at e
  | x :: a, [], _, _, e => by simp at e
  | x :: a, y :: b, ha, hb, e => by
    simp only [List.map_cons, List.cons.injEq] at e
    rw [numS_inj (ha x (by simp)) (hb y (by simp)) e.1, map_numS_inj (fun w h => ha w (by simp [h])) (fun w h => hb w (by simp [h])) e.2]
theorem useS_inj {N N' : Nat} {m m' : List Nat} (hN : N < 1000) (hN' : N' < 1000) (hm : ∀ x ∈ m, x < 1000) (hm' : ∀ x ∈ m', x < 1000) (e : useS N m = useS N' m') : N = N' ∧ m = m' := by
  have h1 : (32 : UInt8) ∉ numS N := numS_no hN (by decide)
  have h2 : (32 : UInt8) ∉ numS N' := numS_no hN' (by decide)
  have form : ∀ (N : Nat) (y : Nat) (r : List Nat), useS N (y :: r) = numS N ++ (32 :: (sEnding ++ 32 :: listS (y :: r))) := fun N y r => by
    simp only [useS]; rw [jn_cons2, jn_cons2, jn_one]; simp
  cases m with
  | nil =>
    cases m' with
    | nil => exact ⟨numS_inj hN hN' e, rfl⟩
    | cons y r =>
      rw [form] at e
      have e : numS N ++ [] = numS N' ++ (32 :: (sEnding ++ 32 :: listS (y :: r))) := by rw [List.append_nil]; exact e
      have := (sep_inj h1 h2 (.inl rfl) (.inr ⟨_, rfl⟩) e).2
      cases this
  | cons y r =>
    cases m' with
    | nil =>
      rw [form] at e
      have e : numS N ++ (32 :: (sEnding ++ 32 :: listS (y :: r))) = numS N' ++ [] := by rw [List.append_nil]; exact e
      have := (sep_inj h1 h2 (.inr ⟨_, rfl⟩) (.inl rfl) e).2
      cases this
    | cons z s =>
      rw [form, form] at e
      obtain ⟨e1, e2⟩ := sep_inj h1 h2 (.inr ⟨_, rfl⟩) (.inr ⟨_, rfl⟩) e
      refine ⟨numS_inj hN hN' e1, ?_⟩
      simp only [List.cons.injEq, true_and] at e2
      have e3 := List.append_cancel_left e2
      simp only [List.cons.injEq, true_and] at e3
      unfold listS at e3
      have e4 := jng_inj (c := 32) (s := [97, 110, 100, 32]) (by simp) (by simp) (fun w hw => ?_) (fun w hw => ?_) e3
      · exact map_numS_inj hm hm' e4
      · obtain ⟨x, hx, rfl⟩ := List.mem_map.1 hw; exact numS_no (hm x hx) (by decide)
      · obtain ⟨x, hx, rfl⟩ := List.mem_map.1 hw; exact numS_no (hm' x hx) (by decide)
theorem usesS_inj : ∀ {s s' : List Pf} {ms ms' : List (List Nat)} {k : Nat}, s.length = ms.length → s'.length = ms'.length → k + Pf.sizes s < 1000 → k + Pf.sizes s' < 1000 → (∀ m ∈ ms, ∀ x ∈ m, x < 1000) → (∀ m ∈ ms', ∀ x ∈ m, x < 1000) →
    usesS k s ms = usesS k s' ms' → s.map Pf.size = s'.map Pf.size ∧ ms = ms'
  | [], [], [], [], _, _, _, _, _, _, _, _ => ⟨rfl, rfl⟩
  | [], _ :: _, [], _ :: _, _, _, _, _, _, _, _, e => by simp [usesS] at e
  | _ :: _, [], _ :: _, [], _, _, _, _, _, _, _, e => by simp [usesS] at e
  | p :: s, q :: s', m :: ms, m' :: ms', k, h1, h2, h3, h4, h5, h6, e => by
    simp only [usesS, List.cons.injEq] at e
    simp only [Pf.sizes] at h3 h4
    obtain ⟨e1, rfl⟩ := useS_inj (by omega) (by omega) (h5 m (by simp)) (h6 m' (by simp)) e.1
    have e2 := e.2
    have hsz : p.size = q.size := by omega
    rw [hsz] at e2
    obtain ⟨e3, rfl⟩ := usesS_inj (by simpa using h1) (by simpa using h2) (by omega) (by omega) (fun x hx => h5 x (by simp [hx])) (fun x hx => h6 x (by simp [hx])) e2
    exact ⟨by simp only [List.map_cons, hsz, e3], rfl⟩
  | [], _, _ :: _, _, _, h, _, _, _, _, _, _ => by simp at h
  | _ :: _, _, [], _, _, h, _, _, _, _, _, _ => by simp at h
  | _, [], _, _ :: _, _, _, h, _, _, _, _, _ => by simp at h
  | _, _ :: _, _, [], _, _, h, _, _, _, _, _ => by simp at h
end Go.Am.Do
namespace Go.Am.Do
theorem nameB_no {c : UInt8} {first rest : UInt8 → Bool} (hf : first c = false) (hr : rest c = false) {n : Str} (h : nameB first rest n = true) : c ∉ n := by
  cases n with
  | nil => simp [nameB] at h
  | cons a r =>
    simp only [nameB, Bool.and_eq_true] at h
    intro hm
    rcases List.mem_cons.1 hm with q | q
    · rw [← q, hf] at h; simp at h
    · have := List.all_eq_true.1 h.2 _ q
      rw [hr] at this; cases this
mutual
theorem T.ws_nc : ∀ t : T, t.right = true → ∀ w ∈ t.ws, (44 : UInt8) ∉ w
  | .mk v n [], h, w, hw => by
    simp only [T.ws, List.mem_singleton] at hw
    subst hw
    cases v with
    | true => simp only [T.right, Bool.and_eq_true] at h; exact nameB_no (by decide) (by decide) h.2
    | false => simp only [T.right, Bool.and_eq_true] at h; exact nameB_no (by decide) (by decide) h.1.1
  | .mk v n (a :: az), h, w, hw => by
    have hv : v = false := by cases v; rfl; simp [T.right] at h
    subst hv
    simp only [T.right, T.rights, Bool.and_eq_true] at h
    simp only [T.ws, List.mem_cons, List.mem_append] at hw
    rcases hw with rfl | rfl | q | q
    · exact nameB_no (by decide) (by decide) h.1.1
    · decide
    · exact T.ws_nc a h.2.1 w q
    · exact T.wsr_nc az h.2.2 w q
theorem T.wsr_nc : ∀ l : List T, T.rights l = true → ∀ w ∈ T.wsr l, (44 : UInt8) ∉ w
  | [], _, w, hw => by
    simp only [T.wsr, List.mem_singleton] at hw
    subst hw; decide
  | t :: r, h, w, hw => by
    simp only [T.rights, Bool.and_eq_true] at h
    simp only [T.wsr, List.mem_cons, List.mem_append] at hw
    rcases hw with rfl | q | q
    · decide
    · exact T.ws_nc t h.1 w q
    · exact T.wsr_nc r h.2 w q
end
theorem headWs_nc {n : Str} {az : List T} (hn : (44 : UInt8) ∉ n) (h : T.rights az = true) : ∀ w ∈ headWs n az, (44 : UInt8) ∉ w := by
  intro w hw
  cases az with
  | nil => simp only [headWs, List.mem_singleton] at hw; subst hw; exact hn
  | cons a r =>
    simp only [T.rights, Bool.and_eq_true] at h
    simp only [headWs, List.mem_cons, List.mem_append] at hw
    rcases hw with rfl | rfl | q | q
    · exact hn
    · decide
    · exact T.ws_nc a h.1 w q
    · exact T.wsr_nc r h.2 w q
theorem pat_nc (op : Nat) : (44 : UInt8) ∉ (pat op).1 ∧ (44 : UInt8) ∉ (pat op).2 := by
  unfold pat
  split
  · rename_i p h
    have hm := List.mem_of_find?_eq_some h
    have : ∀ p ∈ pats, (44 : UInt8) ∉ p.2.1 ∧ (44 : UInt8) ∉ p.2.2 := by decide
    exact this p hm
  · exact ⟨by decide, by decide⟩
theorem F.ws_nc : ∀ (m : Nat) (f : F), f.nodes ≤ m → f.shape = true → ∀ w ∈ f.ws, (44 : UInt8) ∉ w := by
  intro m
  induction m with
  | zero => intro f hm; obtain ⟨op, n, az, l⟩ := f; simp only [F.nodes] at hm; omega
  | succ m ih =>
    intro f hm hf w hw
    obtain ⟨op, n, az, l⟩ := f
    obtain ⟨hs, ha, hc⟩ := shape_cases hf
    simp only [F.nodes] at hm
    simp only [F.ws, List.mem_append] at hw
    have hp := pat_nc op
    have hwss : ∀ w ∈ F.wss (pat op).2 l, (44 : UInt8) ∉ w := by
      intro w hw
      rcases hc with ⟨_, _, rfl⟩ | ⟨_, _, _, rfl⟩ | ⟨_, _, _, x, rfl⟩ | ⟨_, _, _, x, y, rfl⟩ | ⟨_, _, _, x, rfl⟩
      · simp [F.wss] at hw
      · simp [F.wss] at hw
      · simp only [F.nodess] at hm
        simp only [F.wss] at hw
        simp only [F.shapes, Bool.and_true] at hs
        exact ih x (by omega) hs w hw
      · simp only [F.nodess] at hm
        simp only [F.wss, List.mem_append, List.mem_cons] at hw
        simp only [F.shapes, Bool.and_true, Bool.and_eq_true] at hs
        rcases hw with q | q | q
        · exact ih x (by omega) hs.1 w q
        · subst q; exact hp.2
        · exact ih y (by omega) hs.2 w q
      · simp only [F.nodess] at hm
        simp only [F.wss] at hw
        simp only [F.shapes, Bool.and_true] at hs
        exact ih x (by omega) hs w hw
    rcases hw with q | q
    · by_cases h1 : op = 1
      · have hn : predB n = true := by rcases hc with ⟨_, h, _⟩ | ⟨_, _, h, _⟩ | ⟨_, _, h, _⟩ | ⟨_, _, h, _⟩ | ⟨_, _, h, _⟩ <;> first | exact h | (exfalso; omega)
        simp only [F.hws, if_pos h1] at q
        exact headWs_nc (nameB_no (by decide) (by decide) hn) ha w q
      · rw [hws_kw h1, List.mem_append] at q
        rcases q with q | q
        · unfold kw at q
          split at q
          · simp only [List.mem_cons, List.not_mem_nil, or_false] at q; rcases q with rfl | rfl <;> decide
          split at q
          · simp only [List.mem_cons, List.not_mem_nil, or_false] at q; rcases q with rfl | rfl <;> decide
          · simp only [List.mem_singleton] at q; subst q; exact hp.1
        · split at q
          · rename_i h89
            simp only [List.mem_singleton] at q
            subst q
            have hn : varB w = true := by rcases hc with ⟨h, _⟩ | ⟨_, _, h, _⟩ | ⟨_, _, h, _⟩ | ⟨_, _, h, _⟩ | ⟨h, _⟩ <;> first | exact h | (exfalso; omega)
            exact nameB_no (by decide) (by decide) hn
          · cases q
    · exact hwss w q
theorem F.txt_nc {f : F} (hf : f.shape = true) : (44 : UInt8) ∉ f.txt := by
  rw [F.txt_ws f (F.shape_ok f hf)]
  intro h
  rcases jn_mem h with q | ⟨w, hw, hb⟩
  · revert q; decide
  · exact F.ws_nc f.nodes f (Nat.le_refl _) hf w hw hb
end Go.Am.Do
namespace Go.Am.Do
abbrev wAssume : Str := [97, 115, 115, 117, 109, 101]
theorem first_word {f : F} (hf : f.shape = true) (tf : f.tiny) : ∃ x r, f.ws = x :: r ∧ (32 : UInt8) ∉ x ∧ x ≠ wAssume := by
  have hn := F.ws_nice f (F.shape_ok f hf)
  obtain ⟨op, n, az, l⟩ := f
  obtain ⟨hs, ha, hc⟩ := shape_cases hf
  simp only [F.tiny] at tf
  by_cases h1 : op = 1
  · have : ∃ r, headWs n az = n :: r := by cases az <;> exact ⟨_, rfl⟩
    obtain ⟨r, hr⟩ := this
    have e : (F.mk op n az l).ws = n :: (r ++ F.wss (pat op).2 l) := by simp only [F.ws, F.hws, if_pos h1, hr, List.cons_append]
    refine ⟨n, _, e, (hn n (by rw [e]; simp)).2, fun q => ?_⟩
    rw [q] at tf; have := tf.2.1; simp at this
  · have ho : op ∈ opsL := by
      rcases hc with ⟨h, _⟩ | ⟨_, _, h, _⟩ | ⟨_, _, h, _⟩ | ⟨_, _, h, _⟩ | ⟨_, _, h, _⟩
      · exact absurd h h1
      all_goals (simp only [List.mem_cons, List.not_mem_nil, or_false]; omega)
    obtain ⟨x, r, hx, _⟩ := kw_two op ho
    have e : (F.mk op n az l).ws = x :: (r ++ (if op = 8 ∨ op = 9 then [n] else []) ++ F.wss (pat op).2 l) := by
      simp only [F.ws]; rw [hws_kw h1, hx]; simp
    refine ⟨x, _, e, (hn x (by rw [e]; simp)).2, fun q => ?_⟩
    have : ∀ a ∈ opsL, (kw a).head? ≠ some wAssume := by decide
    exact this op ho (by rw [hx, q]; rfl)
def tailB (r : Str) (us : List Str) : Str := if r = [63] then sStill else match us with
  | [] => sBy ++ r
  | us => sBy ++ r ++ sFrom ++ jn us sComma
theorem tailB_comma (r : Str) (us : List Str) : ∃ t, tailB r us = 44 :: 32 :: t := by
  unfold tailB
  split
  · exact ⟨_, rfl⟩
  · split <;> exact ⟨_, rfl⟩
theorem lineP_leaf (N : Nat) (f : F) (n : Nat) (us : List Str) : lineP N [] f n us = numS N ++ (58 :: 32 :: (wAssume ++ 32 :: (numS n ++ 44 :: 32 :: f.txt))) := by simp [lineP]
theorem lineP_tail {N : Nat} {r : Str} (f : F) (n : Nat) (us : List Str) (h : r ≠ []) : lineP N r f n us = numS N ++ (58 :: 32 :: (f.txt ++ tailB r us)) := by
  unfold lineP tailB
  rw [if_neg h]
  by_cases h2 : r = [63]
  · rw [if_pos h2, if_pos h2]; simp
  · rw [if_neg h2, if_neg h2]
    cases us with
    | nil => simp
    | cons u ur => simp
theorem tail_inj {r r' : Str} {us us' : List Str} (hr : (r = [63] ∧ us = []) ∨ isRule r) (hr' : (r' = [63] ∧ us' = []) ∨ isRule r') (hu : ∀ u ∈ us, (44 : UInt8) ∉ u) (hu' : ∀ u ∈ us', (44 : UInt8) ∉ u) (e : tailB r us = tailB r' us') : r = r' ∧ us = us' := by
  have form : ∀ {r : Str} {us : List Str}, isRule r → ∃ X, tailB r us = sBy ++ (r ++ X) ∧ (X = [] ∨ ∃ t, X = 32 :: t) ∧ (us = [] → X = []) ∧ (us ≠ [] → X = sFrom ++ jn us sComma) := by
    intro r us h
    obtain ⟨_, _, h63, _⟩ := rule_nf h
    unfold tailB
    rw [if_neg h63]
    cases us with
    | nil => exact ⟨[], by simp, .inl rfl, fun _ => rfl, fun q => absurd rfl q⟩
    | cons u ur => exact ⟨sFrom ++ jn (u :: ur) sComma, by simp, .inr ⟨_, rfl⟩, (fun q => by cases q), fun _ => rfl⟩
  rcases hr with ⟨rfl, rfl⟩ | hr
  · rcases hr' with ⟨rfl, rfl⟩ | hr'
    · exact ⟨rfl, rfl⟩
    · obtain ⟨X, hX, _⟩ := form (us := us') hr'
      rw [hX] at e
      simp [tailB] at e
  · rcases hr' with ⟨rfl, rfl⟩ | hr'
    · obtain ⟨X, hX, _⟩ := form (us := us) hr
      rw [hX] at e
      simp [tailB] at e
    · obtain ⟨X, hX, hs, h0, h1⟩ := form (us := us) hr
      obtain ⟨X', hX', hs', h0', h1'⟩ := form (us := us') hr'
      rw [hX, hX'] at e
      have e := List.append_cancel_left e
      obtain ⟨rfl, e2⟩ := sep_inj (rule_nf hr).1.1 (rule_nf hr').1.1 hs hs' e
      refine ⟨rfl, ?_⟩
      by_cases q : us = []
      · by_cases q' : us' = []
        · rw [q, q']
        · rw [h0 q, h1' q'] at e2; simp at e2
      · by_cases q' : us' = []
        · rw [h1 q, h0' q'] at e2; simp at e2
        · rw [h1 q, h1' q'] at e2
          have e3 := List.append_cancel_left e2
          exact jng_inj (c := 44) (s := [32]) q q' hu hu' e3
def StepOk (r : Str) (f : F) (n : Nat) (us : List Str) : Prop := f.shape = true ∧ f.tiny ∧ n < 1000 ∧ (∀ u ∈ us, (44 : UInt8) ∉ u) ∧ ((r = [] ∧ us = []) ∨ (r = [63] ∧ us = [] ∧ n = 0) ∨ (isRule r ∧ n = 0))
theorem assume_not {f : F} (hf : f.shape = true) (tf : f.tiny) {t X : Str} (e : wAssume ++ 32 :: X = f.txt ++ 44 :: 32 :: t) : False := by
  obtain ⟨x, r, hx, h32, hne⟩ := first_word hf tf
  rw [F.txt_ws f (F.shape_ok f hf), hx, jn_tl] at e
  cases r with
  | nil =>
    have e2 : wAssume ++ 32 :: X = (x ++ [44]) ++ 32 :: t := by rw [e]; simp [tl]
    have := (sep_inj (c := 32) (by decide) (fun h => by
      rcases List.mem_append.1 h with q | q
      · exact h32 q
      · revert q; decide) (.inr ⟨_, rfl⟩) (.inr ⟨_, rfl⟩) e2).1
    have h44 : (44 : UInt8) ∈ wAssume := by rw [this]; simp
    revert h44; decide
  | cons y r =>
    have e2 : wAssume ++ 32 :: X = x ++ 32 :: (y ++ tl r ++ 44 :: 32 :: t) := by rw [e, tl_cons]; simp
    exact hne (sep_inj (c := 32) (by decide) h32 (.inr ⟨_, rfl⟩) (.inr ⟨_, rfl⟩) e2).1.symm
theorem line_inj {N : Nat} {r r' : Str} {f f' : F} {n n' : Nat} {us us' : List Str} (h : StepOk r f n us) (h' : StepOk r' f' n' us') (e : lineP N r f n us = lineP N r' f' n' us') : r = r' ∧ f = f' ∧ n = n' ∧ us = us' := by
  obtain ⟨hf, tf, hn, hu, hc⟩ := h
  obtain ⟨hf', tf', hn', hu', hc'⟩ := h'
  have ne : ∀ {r : Str}, isRule r → r ≠ [] := fun q => (rule_nf q).2.1
  by_cases h0 : r = []
  · have hus : us = [] := by
      rcases hc with ⟨_, h⟩ | ⟨h, _⟩ | ⟨h, _⟩
      · exact h
      · rw [h0] at h; cases h
      · exact absurd h0 (ne h)
    subst h0
    rw [lineP_leaf] at e
    by_cases h0' : r' = []
    · have hus' : us' = [] := by
        rcases hc' with ⟨_, h⟩ | ⟨h, _⟩ | ⟨h, _⟩
        · exact h
        · rw [h0'] at h; cases h
        · exact absurd h0' (ne h)
      subst h0'
      rw [lineP_leaf] at e
      have e := List.append_cancel_left e
      simp only [List.cons.injEq, true_and] at e
      have e := List.append_cancel_left e
      simp only [List.cons.injEq, true_and] at e
      obtain ⟨e1, e2⟩ := sep_inj (c := 44) (numS_no hn (by decide)) (numS_no hn' (by decide)) (.inr ⟨_, rfl⟩) (.inr ⟨_, rfl⟩) e
      simp only [List.cons.injEq, true_and] at e2
      exact ⟨rfl, F.txt_inj hf hf' tf tf' e2, numS_inj hn hn' e1, by rw [hus, hus']⟩
    · exfalso
      rw [lineP_tail _ _ _ h0'] at e
      obtain ⟨t, ht⟩ := tailB_comma r' us'
      rw [ht] at e
      have e := List.append_cancel_left e
      simp only [List.cons.injEq, true_and] at e
      exact assume_not hf' tf' e
  · rw [lineP_tail _ _ _ h0] at e
    by_cases h0' : r' = []
    · exfalso
      subst h0'
      rw [lineP_leaf] at e
      obtain ⟨t, ht⟩ := tailB_comma r us
      rw [ht] at e
      have e := List.append_cancel_left e
      simp only [List.cons.injEq, true_and] at e
      exact assume_not hf tf e.symm
    · rw [lineP_tail _ _ _ h0'] at e
      obtain ⟨t, ht⟩ := tailB_comma r us
      obtain ⟨t', ht'⟩ := tailB_comma r' us'
      have e := List.append_cancel_left e
      simp only [List.cons.injEq, true_and] at e
      obtain ⟨e1, e2⟩ := sep_inj (c := 44) (F.txt_nc hf) (F.txt_nc hf') (.inr ⟨_, ht⟩) (.inr ⟨_, ht'⟩) e
      have c1 : (r = [63] ∧ us = []) ∨ isRule r := by
        rcases hc with ⟨h, _⟩ | ⟨h, h2, _⟩ | ⟨h, _⟩
        · exact absurd h h0
        · exact .inl ⟨h, h2⟩
        · exact .inr h
      have c2 : (r' = [63] ∧ us' = []) ∨ isRule r' := by
        rcases hc' with ⟨h, _⟩ | ⟨h, h2, _⟩ | ⟨h, _⟩
        · exact absurd h h0'
        · exact .inl ⟨h, h2⟩
        · exact .inr h
      have n1 : n = 0 := by rcases hc with ⟨h, _⟩ | ⟨_, _, h⟩ | ⟨_, h⟩ <;> first | exact h | exact absurd h h0
      have n2 : n' = 0 := by rcases hc' with ⟨h, _⟩ | ⟨_, _, h⟩ | ⟨_, h⟩ <;> first | exact h | exact absurd h h0'
      obtain ⟨rfl, rfl⟩ := tail_inj c1 c2 hu hu' e2
      exact ⟨rfl, F.txt_inj hf hf' tf tf' e1, by omega, rfl⟩
end Go.Am.Do
namespace Go.Am.Do
theorem uses_nc : ∀ (l : List Pf) (ms : List (List Nat)) (k : Nat), k + Pf.sizes l < 1000 → (∀ m ∈ ms, m.length ≤ 3 ∧ ∀ x ∈ m, x ≤ 999) → ∀ u ∈ usesS k l ms, (44 : UInt8) ∉ u
  | [], ms, k, _, _, u, hu => by cases ms <;> simp [usesS] at hu
  | p :: r, [], k, _, _, u, hu => by simp [usesS] at hu
  | p :: r, m :: ms, k, hk, hm, u, hu => by
    simp only [Pf.sizes] at hk
    simp only [usesS, List.mem_cons] at hu
    have hp := size_pos p
    rcases hu with rfl | hu
    · have h := hm m (by simp)
      exact (useS_ok (i := k + p.size) (by omega) (Nat.le_refl _) (by omega) (fun x hx => by have := h.2 x hx; omega) (Nat.le_trans (useB _ h.1) (by omega))).1
    · exact uses_nc r ms (k + p.size) (by omega) (fun x hx => hm x (by simp [hx])) u hu
theorem fit_step {r : Str} {f : F} {n : Nat} {s : List Pf} {ms : List (List Nat)} {k : Nat} (h : (Pf.mk r f n s ms).fit) (hk : k + Pf.sizes s < 1000) : StepOk r f n (usesS k s ms) ∧ s.length = ms.length ∧ (∀ m ∈ ms, ∀ x ∈ m, x < 1000) := by
  rw [Pf.fit] at h
  obtain ⟨hr, ht, hc, _⟩ := h
  have hsh : f.shape = true := by
    simp only [F.right, Bool.and_eq_true, decide_eq_true_eq] at hr
    exact hr.2
  rcases hc with ⟨rfl, rfl, rfl, _, hn⟩ | ⟨rfl, rfl, rfl, rfl⟩ | ⟨hrule, rfl, _, hm, hms⟩
  · exact ⟨⟨hsh, ht, by omega, by simp [usesS], .inl ⟨rfl, rfl⟩⟩, rfl, by simp⟩
  · exact ⟨⟨hsh, ht, by omega, by simp [usesS], .inr (.inl ⟨rfl, rfl, rfl⟩)⟩, rfl, by simp⟩
  · exact ⟨⟨hsh, ht, by omega, uses_nc s ms k hk hms, .inr (.inr ⟨hrule, rfl⟩)⟩, hm.symm, fun m hm x hx => by have := (hms m hm).2 x hx; omega⟩
theorem liness_inj {m : Nat} (ih : ∀ (p q : Pf) (k : Nat), p.size ≤ m → p.fit → q.fit → k + p.size ≤ 900 → p.lines k = q.lines k → p = q) :
    ∀ (s s' : List Pf) (k : Nat), Pf.sizes s ≤ m → Pf.fits s → Pf.fits s' → k + Pf.sizes s ≤ 900 → s.map Pf.size = s'.map Pf.size → Pf.liness k s = Pf.liness k s' → s = s'
  | [], [], _, _, _, _, _, _, _ => rfl
  | [], _ :: _, _, _, _, _, _, h, _ => by simp at h
  | _ :: _, [], _, _, _, _, _, h, _ => by simp at h
  | p :: s, q :: s', k, hm, hf, hf', hk, hsz, e => by
    simp only [Pf.sizes] at hm hk
    simp only [Pf.fits] at hf hf'
    simp only [List.map_cons, List.cons.injEq] at hsz
    simp only [Pf.liness] at e
    have hpq := hsz.1
    obtain ⟨e1, e2⟩ := List.append_inj e (by rw [Pf.lines_len, Pf.lines_len, hpq])
    have hp : p = q := ih p q k (by omega) hf.1 hf'.1 (by omega) e1
    subst hp
    rw [liness_inj ih s s' (k + p.size) (by omega) hf.2 hf'.2 (by omega) hsz.2 e2]
theorem Pf.lines_inj : ∀ (m : Nat) (p q : Pf) (k : Nat), p.size ≤ m → p.fit → q.fit → k + p.size ≤ 900 → p.lines k = q.lines k → p = q := by
  intro m
  induction m with
  | zero => intro p q k hm; have := size_pos p; omega
  | succ m ih =>
    intro p q k hm hf hf' hk e
    have hlen := congrArg List.length e
    rw [Pf.lines_len, Pf.lines_len] at hlen
    obtain ⟨r, f, n, s, ms⟩ := p
    obtain ⟨r', f', n', s', ms'⟩ := q
    simp only [Pf.size] at hm hk hlen
    have hss : Pf.sizes s = Pf.sizes s' := by omega
    simp only [Pf.lines] at e
    obtain ⟨e1, e2⟩ := List.append_inj e (by rw [Pf.liness_len, Pf.liness_len, hss])
    simp only [List.cons.injEq, and_true] at e2
    rw [← hss] at e2
    obtain ⟨h1, hl, hx⟩ := fit_step (k := k) hf (by omega)
    obtain ⟨h1', hl', hx'⟩ := fit_step (k := k) hf' (by omega)
    obtain ⟨rfl, rfl, rfl, eu⟩ := line_inj h1 h1' e2
    obtain ⟨e3, rfl⟩ := usesS_inj hl hl' (by omega) (by omega) hx hx' eu
    rw [Pf.fit] at hf hf'
    rw [liness_inj ih s s' k (by omega) hf.2.2.2 hf'.2.2.2 (by omega) e3 e1]
theorem lines_same {p q : Pf} (hf : p.fit) (hf' : q.fit) (hs : p.size ≤ 40) : p.lines 0 = q.lines 0 ↔ p = q :=
  ⟨Pf.lines_inj p.size p q 0 (Nat.le_refl _) hf hf' (by omega), fun h => by rw [h]⟩
theorem txt_same {f g : F} (hf : f.shape = true) (hg : g.shape = true) (tf : f.tiny) (tg : g.tiny) : f.txt = g.txt ↔ f = g := ⟨F.txt_inj hf hg tf tg, fun h => by rw [h]⟩
abbrev wGiven : Str := [103, 105, 118, 101, 110]
abbrev wShow : Str := [115, 104, 111, 119]
def claimS (l r : List F) : Str := jn (l.map (fun f => jn [wGiven, f.txt] sp) ++ r.map (fun f => jn [wShow, f.txt] sp)) sComma
theorem claim_odd {f g : F} (hf : f.shape = true) (hg : g.shape = true) (tf : f.tiny) (tg : g.tiny) : claimS [f] [g] = claimS [g] [f] ↔ f = g := by
  refine ⟨fun e => ?_, fun h => by rw [h]⟩
  have form : ∀ f g : F, claimS [f] [g] = wGiven ++ (32 :: (f.txt ++ 44 :: (32 :: (wShow ++ 32 :: g.txt)))) := fun f g => by
    simp only [claimS, List.map_cons, List.map_nil, List.cons_append, List.nil_append]
    rw [jn_cons2, jn_one, jn_cons2, jn_one, jn_cons2, jn_one]; simp
  rw [form, form] at e
  have e := List.append_cancel_left e
  simp only [List.cons.injEq, true_and] at e
  exact F.txt_inj hf hg tf tg (sep_inj (c := 44) (F.txt_nc hf) (F.txt_nc hg) (.inr ⟨_, rfl⟩) (.inr ⟨_, rfl⟩) e).1
theorem claim_even (f g : F) : claimS [f] [g] ≠ claimS [f, g] [] := by
  intro e
  have f1 : claimS [f] [g] = wGiven ++ (32 :: (f.txt ++ 44 :: (32 :: (wShow ++ 32 :: g.txt)))) := by
    simp only [claimS, List.map_cons, List.map_nil, List.cons_append, List.nil_append]
    rw [jn_cons2, jn_one, jn_cons2, jn_one, jn_cons2, jn_one]; simp
  have f2 : claimS [f, g] [] = wGiven ++ (32 :: (f.txt ++ 44 :: (32 :: (wGiven ++ 32 :: g.txt)))) := by
    simp only [claimS, List.map_cons, List.map_nil, List.cons_append, List.nil_append, List.append_nil]
    rw [jn_cons2, jn_one, jn_cons2, jn_one, jn_cons2, jn_one]; simp
  rw [f1, f2] at e
  have e := List.append_cancel_left e
  simp only [List.cons.injEq, true_and] at e
  have e := List.append_cancel_left e
  simp at e
end Go.Am.Do
namespace Go.Am
open Go.RowKit Go.ChangeShapes Go.WideShapes
theorem RunF.calls {Rs : Code → AC → Prop} {P : Program} {f : Nat} {fn : Func} (hfn : P.funcs[f]? = some fn) (hb : fn.body.isNone = false) (hn : (fn.name == "runtime.NumGoroutine") = false) {args : List AV} {σ : AState} {Q : AV → AState → Prop}
    (h : RunF Rs P f args σ Q) {w0 : World} {ρ : RMap} {D : List Nat × List Nat} {cargs : Array Value} {w : World} (ha : VRelL ρ args cargs.toList) (hS : SRel Rs P w0 ρ D σ w) :
    Calls P f cargs w fun e w' => ∃ cv, e = .returned cv ∧ After Rs P w0 σ.next ρ D Q cv w' := by
  obtain ⟨d, hd, hr⟩ := h w0 ρ D (.func (.func f) #[] #[]) cargs w (by simp only [VRel]; exact ⟨#[], #[], rfl, (fun _ q => by cases q), VRelL.mk_nil, VRelL.mk_nil⟩) ha hS
  have hd' : d = { target := .fn (.func f) #[], args := #[] ++ cargs } := by
    have : (Deferred.ofValue (.func (.func f) #[] #[]) cargs).run P w = .ok { target := .fn (.func f) #[], args := #[] ++ cargs } w := rfl
    rw [this] at hd; injection hd with hd; exact hd.symm
  subst hd'
  have hinv : (invoke (.fn (.func f) #[]) (#[] ++ cargs)).run P w = .ok (.enter f cargs) w := by
    simp only [invoke, callFunc, Sem.run_bind, run_program, Result.andThen_ok, hfn, hn, hb, Bool.false_eq_true, if_false, Sem.run_pure]
    simp
  simp only [hinv, NextOut] at hr
  exact hr
def startL (G : Nat) (gl : Nat → Option (List AV)) (ls : List (List AV)) : AState :=
  { get := fun i => if i < G then (gl i).map (fun l => .cells l false) else (ls[i - G]?).map (fun l => .cells l false), next := G + ls.length }
def startM (G : Nat) (gl : Nat → Option (List AV)) (ms : List Loc) : RMap := fun i => if i < G then some ⟨i, 0, ((gl i).getD []).length⟩ else ms[i - G]?
theorem SRel.startL {Rs : Code → AC → Prop} {P : Program} {w : World} {gl : Nat → Option (List AV)} {ls : List (List AV)} {ms : List Loc} (hG : ∀ g, g < P.globals.size → g < w.heap.size)
    (hgl : ∀ g xs, g < P.globals.size → gl g = some xs → ∀ k x, xs[k]? = some x → ∃ y, w.cell? ⟨g, k, none⟩ = some y ∧ ∀ ρ, VRel ρ x y) (hlen : ms.length = ls.length)
    (hm : ∀ m ∈ ms, m.blk < w.heap.size) (hc : ∀ (j : Nat) (l : List AV) (m : Loc), ls[j]? = some l → ms[j]? = some m → l.length ≤ m.ext ∧ ∀ k x, l[k]? = some x → ∃ y, w.cell? ⟨m.blk, m.base + k, none⟩ = some y ∧ ∀ ρ, VRel ρ x y) :
    SRel Rs P w (startM P.globals.size gl ms) ([], []) (Am.startL P.globals.size gl ls) w where
  below := Below.refl _ _
  dom i hi := by
    have hi' : P.globals.size + ls.length ≤ i := hi
    simp only [startM, Am.startL, if_neg (show ¬ i < P.globals.size by omega)]
    rw [List.getElem?_eq_none (by omega), List.getElem?_eq_none (by omega)]
    exact ⟨rfl, rfl⟩
  lt i l e := by
    simp only [startM] at e
    by_cases h : i < P.globals.size
    · rw [if_pos h] at e; cases e; exact hG i h
    · rw [if_neg h] at e
      exact hm l (List.mem_of_getElem? e)
  blk i b lo e1 e2 := by
    simp only [startM] at e2
    simp only [Am.startL] at e1
    by_cases h : i < P.globals.size
    · rw [if_pos h] at e2; cases e2
      rw [if_pos h] at e1
      cases hx : gl i with
      | none => rw [hx] at e1; cases e1
      | some xs =>
        rw [hx] at e1
        simp only [Option.map_some, Option.some.injEq] at e1
        subst e1
        refine ⟨by simp, fun k x hk => ?_, fun q => by cases q⟩
        obtain ⟨y, h1, h2⟩ := hgl i xs h hx k x hk
        exact ⟨y, by simpa using h1, h2 _⟩
    · rw [if_neg h] at e2 e1
      obtain ⟨l, hl, rfl⟩ := Option.map_eq_some_iff.1 e1
      obtain ⟨h1, h2⟩ := hc _ l lo hl e2
      refine ⟨h1, fun k x hk => ?_, fun q => by cases q⟩
      obtain ⟨y, h3, h4⟩ := h2 k x hk
      exact ⟨y, h3, h4 _⟩
  sep i j b c l1 l2 hij e1 e2 r1 r2 := by
    have key : ∀ (i : Nat) (b : ABlk), (Am.startL P.globals.size gl ls).get i = some b → b.isCells = true ∧ b.wr = false := by
      intro i b e
      simp only [Am.startL] at e
      by_cases h : i < P.globals.size
      · rw [if_pos h] at e
        obtain ⟨x, _, rfl⟩ := Option.map_eq_some_iff.1 e
        exact ⟨rfl, rfl⟩
      · rw [if_neg h] at e
        obtain ⟨x, _, rfl⟩ := Option.map_eq_some_iff.1 e
        exact ⟨rfl, rfl⟩
    obtain ⟨a1, a2⟩ := key i b e1
    obtain ⟨b1, b2⟩ := key j c e2
    exact .inr ⟨a1, b1, .inl ⟨a2, b2⟩⟩
  defs d hd := by cases hd
  nodup := List.nodup_nil
  loops d hd := by cases hd
  glob g hg := ⟨_, if_pos hg, rfl, rfl⟩
theorem start_intsB {H : Type} {enc : TypeId × Value → H} {P : Program} {W : World} {t e : TypeId} {k : IntKind} {base : Nat} {v : Value} {d : DataW H} {p : List MemPlace} (B : Nat) (ht : P.underlying t = some (.slice e)) (he : P.underlying e = some (.int k)) (hc : P.cellsOf e = 1)
    (hG : 0 < W.heap.size) (hval : Value.okWide P W .any base t v) (h : DataW.Trod enc P W 0 (fun _ => true) true t v d p) :
    ∃ (o : Option (Nat × Nat)) (len : Nat) (zs : List Int) (m : Loc), (o = none ∧ len = 0 ∨ o = some (B, 0)) ∧ m.blk < W.heap.size ∧ (zs.map (AV.int k)).length ≤ m.ext ∧ len ≤ zs.length ∧
      (∀ j x, (zs.map (AV.int k))[j]? = some x → ∃ y, W.cell? ⟨m.blk, m.base + j, none⟩ = some y ∧ ∀ ρ, VRel ρ x y) ∧ (∀ z ∈ zs, k.min ≤ z ∧ z ≤ k.max) ∧
      ∀ ρ : RMap, ρ B = some m → VRel ρ (.slice o len none 1) v := by
  obtain ⟨a1, len, cap, rfl⟩ := okWide_slice ht hval
  obtain ⟨fuel, hf⟩ := h
  rcases open_ints ht he hc hf with ⟨hcs, hx⟩ | ⟨a, len', cap', zs, hcs, _, hl, hm, hz, hx, hcell, hwz⟩
  · simp [Value.cells] at hcs
    obtain ⟨rfl, rfl, rfl⟩ := hcs
    exact ⟨none, 0, [], ⟨0, 0, 0⟩, .inl ⟨rfl, rfl⟩, hG, Nat.le_refl _, Nat.le_refl _, (fun j x q => by simp at q), (fun z hz => by cases hz), (fun ρ _ => by simp [VRel, SlRel])⟩
  · simp [Value.cells] at hcs
    obtain ⟨rfl, rfl, rfl⟩ := hcs
    simp only [if_true] at hz
    have hhas : P.cellsOf e = 1 ∧ a.spot = none ∧ a.block < W.heap.size := by
      unfold Value.okWide at hval
      simp only [ht] at hval
      unfold Cell.okWide at hval
      simp only [ht] at hval
      unfold Cell.ok at hval
      simp only [ht] at hval
      obtain ⟨_, _, _, h2, row, cells, h3, _⟩ := hval
      refine ⟨hc, h2, ?_⟩
      rcases Nat.lt_or_ge a.block W.heap.size with q | q
      · exact q
      · exfalso
        unfold World.shape? at h3
        rw [Array.getElem?_eq_none q] at h3
        simp at h3
    obtain ⟨_, hspot, hblk⟩ := hhas
    obtain ⟨b, off, spot⟩ := a
    simp only at hspot hblk
    subst hspot
    refine ⟨some (B, 0), len, zs, ⟨b, off, cap⟩, .inr rfl, hblk, by simp [hz], by omega, fun j x hj => ?_, fun z hz' => ?_, fun ρ hρ => ?_⟩
    · rw [List.getElem?_map, Option.map_eq_some_iff] at hj
      obtain ⟨z, hj, rfl⟩ := hj
      have hlt : j < zs.length := by
        rcases Nat.lt_or_ge j zs.length with q | q
        · exact q
        · rw [List.getElem?_eq_none q] at hj; cases hj
      refine ⟨.int k z, ?_, fun ρ => VRel.int⟩
      have := hcell j hlt
      rw [show zs.getD j 0 = z by simp [List.getD, hj]] at this
      rw [Addr.add] at this
      split at this
      · rename_i q; subst q; exact this
      · exact this
    · simpa [Lit.wf] using hwz z hz'
    · simp only [VRel, SlRel]
      exact ⟨⟨b, off, cap⟩, ⟨b, off, none⟩, cap, hρ, rfl, rfl, .inr ⟨rfl, rfl⟩, hl, .inr (by show 0 + cap * 1 ≤ cap; omega), (fun c q => by cases q)⟩
theorem glob_lt {P : Program} {W : World} (h : W.ShapedOpen P) (hk : ((List.range P.globals.size).all fun g => (((begin P (fun _ _ => 0) default).world.heap[g]?).bind Obj.row?).isSome) = true) : ∀ g, g < P.globals.size → g < W.heap.size := fun g hg => by
  have h1 := List.all_eq_true.1 hk g (by simpa using hg)
  obtain ⟨⟨zero, t⟩, h2⟩ := Option.isSome_iff_exists.1 h1
  obtain ⟨cs, hh, _, _⟩ := h.1 g zero t hg h2
  exact (Array.getElem?_eq_some_iff.1 hh).1
theorem int_of_shape {P : Program} {w : World} {g : Nat} {t : TypeId} {k : IntKind} (h : w.ShapedOpen P) (hg : g < P.globals.size)
    (h0 : (((begin P (fun _ _ => 0) default).world.heap[g]?).bind Obj.row?).map (fun x => (x.1.size, x.2)) = some (1, t))
    (hb : P.buildable t = true) (hc : P.cellTypes P.depth t = some [t]) (hu : P.underlying t = some (.int k)) : ∃ n, w.cell? ⟨g, 0, none⟩ = some (.int k n) := by
  obtain ⟨⟨zero, t'⟩, h00, h1⟩ := Option.map_eq_some_iff.1 h0
  simp only [Prod.mk.injEq] at h1
  obtain ⟨hz, rfl⟩ := h1
  obtain ⟨cs, hh, hs, hr⟩ := h.1 g zero t' hg h00
  obtain ⟨ts, hts, _, hall⟩ := hr hb
  rw [hc] at hts
  cases hts
  have h1 : 0 < cs.size := by omega
  obtain ⟨u, hu', hok⟩ := hall 0 cs[0] (by simp [h1])
  have : u = t' := by simpa using hu'.symm
  subst this
  have hcell : w.cell? ⟨g, 0, none⟩ = some cs[0] := by simp [World.cell?, hh, h1]
  rw [hcell]
  unfold Cell.ok at hok
  rw [hu] at hok
  cases hv : cs[0] <;> rw [hv] at hok <;> first | (obtain ⟨rfl, _⟩ := hok; exact ⟨_, rfl⟩) | simp at hok
end Go.Am
