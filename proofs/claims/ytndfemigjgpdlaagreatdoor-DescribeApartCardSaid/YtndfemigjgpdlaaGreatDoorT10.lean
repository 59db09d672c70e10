/-
  A PART of the proof: ApXapart2.
-/
import Derived.Test.YtndfemigjgpdlaaGreatDoorT08
import Derived.Test.YtndfemigjgpdlaaGreatDoorT09
set_option linter.unusedSimpArgs false
set_option linter.unusedVariables false
namespace Go.Am
open Go.RowKit Go.Proofs Do
set_option maxRecDepth 100000
structure BLv (ts : List AV) (v0 v1 v7 v8 v9 v10 v11 v12 v13 v14 : AV) : Prop where
  len : ts.length = 119
  t0 : ts.getD 0 U = v0
  t1 : ts.getD 1 U = v1
  t7 : ts.getD 7 U = v7
  t8 : ts.getD 8 U = v8
  t9 : ts.getD 9 U = v9
  t10 : ts.getD 10 U = v10
  t11 : ts.getD 11 U = v11
  t12 : ts.getD 12 U = v12
  t13 : ts.getD 13 U = v13
  t14 : ts.getD 14 U = v14
theorem BLv.open {ts : List AV} {v0 v1 v7 v8 v9 v10 v11 v12 v13 v14 : AV} (h : BLv ts v0 v1 v7 v8 v9 v10 v11 v12 v13 v14) : ∃ a : Nat → AV, ts = [v0, v1, a 2, a 3, a 4, a 5, a 6, v7, v8, v9, v10, v11, v12, v13, v14, a 15, a 16, a 17, a 18, a 19, a 20, a 21, a 22, a 23, a 24, a 25, a 26, a 27, a 28, a 29, a 30, a 31, a 32, a 33, a 34, a 35, a 36, a 37, a 38, a 39, a 40, a 41, a 42, a 43, a 44, a 45, a 46, a 47, a 48, a 49, a 50, a 51, a 52, a 53, a 54, a 55, a 56, a 57, a 58, a 59, a 60, a 61, a 62, a 63, a 64, a 65, a 66, a 67, a 68, a 69, a 70, a 71, a 72, a 73, a 74, a 75, a 76, a 77, a 78, a 79, a 80, a 81, a 82, a 83, a 84, a 85, a 86, a 87, a 88, a 89, a 90, a 91, a 92, a 93, a 94, a 95, a 96, a 97, a 98, a 99, a 100, a 101, a 102, a 103, a 104, a 105, a 106, a 107, a 108, a 109, a 110, a 111, a 112, a 113, a 114, a 115, a 116, a 117, a 118] := by
  have h1 := list_range h.len
  refine ⟨fun i => ts.getD i U, ?_⟩
  rw [← h.t0, ← h.t1, ← h.t7, ← h.t8, ← h.t9, ← h.t10, ← h.t11, ← h.t12, ← h.t13, ← h.t14]
  exact h1
set_option maxHeartbeats 4000000 in
theorem apart_b {σ : AState} {j7 j8 j13 j14 : Nat} {f g : F} {l2 r2 : List F} (hS : ASt σ j7 j8 j13 j14 f g l2 r2) (hf : FitF f) (hg : FitF g) {o o' : Option (Nat × Nat)} {n n' z z' : Nat} {l l' : List Nat} {pw : Bool} (hB : Bys σ.get o n z l) (hx : ∀ x ∈ l, x < 256) (hB' : Bys σ.get o' n' z' l') (hx' : ∀ x ∈ l', x < 256)
    (hpow : σ.get 1 = some (.cells pow10L pw)) (heq : claimS [f] [g] = claimS l2 r2 ↔ ([f], [g]) = (l2, r2)) (hm : ∀ x ∈ l2 ++ r2, x = f ∨ x = g) (h2 : (l2 ++ r2).length = 2) {e0 : AV} (he0 : e0 = .int .i64 0) {ts : List AV}
    (hL : BLv ts (.slice o n none z) (.slice o' n' none z') (.ptr (some (j7, 0))) (.ptr (some (j8, 0))) (.str f.txt) e0 (.str g.txt) e0 (.ptr (some (j13, 0))) (.ptr (some (j14, 0)))) :
    wpC RR Tryz.prog c80_27 ts σ (EndOk [(6, none)] fun u _ => u = .bool true) := by
  obtain ⟨a, rfl⟩ := hL.open
  have hof : ∀ x, x = f ∨ x = g → x.right = true ∧ x.sane ∧ x.txt.length ≤ 1000000 := fun x h => by
    rcases h with rfl | rfl
    · exact ⟨hf.1, hf.2.1, Nat.le_trans hf.2.2.1 (by omega)⟩
    · exact ⟨hg.1, hg.2.1, Nat.le_trans hg.2.2.1 (by omega)⟩
  obtain ⟨q1, d1, y1, q2, d2, y2, h13, hF1, hF2⟩ := hS.one
  obtain ⟨q3, d3, y3, q4, d4, y4, h14, hF3, hF4, h0, h1⟩ := hS.two
  simp -implicitDefEqProofs (maxDischargeDepth := 15) only [↓reduceIte, Ys, Yt, Wb, Wj, Wk, opA, Wv, Ww, Wx, Wy, Wz, Za, Zb, Vb, partA, Zf, Zg, Zh, Zi, Nat.reduceAdd, Zj, Zk, Zm, Zo, Zt, c80_9, c80_10, c80_26, c80_27, c80_27, h13]
  refine RunV.to (claim_ok (l := [f]) (r := [g]) hF1 hF2 (fun h => by cases h) (fun h => by cases h) (by simp) (by simp) (fun x h => hof x (by simpa using h))) ?_
  simp -implicitDefEqProofs (maxDischargeDepth := 15) only [↓reduceIte, Yr, Ys, Yt, Wb, Wj, Wk, Wo, Wu, opA, Wv, Ww, Wx, Wy, Wz, Za, Zb, Vb, partA, Zf, Zg, Zh, Zi, Nat.reduceAdd, Zj, Zk, Zm, Zo, Zq, Zr, Zt, h14]
  refine RunV.to (claim_ok (l := l2) (r := r2) hF3 hF4 h0 h1 (by omega) (by omega) (fun x h => hof x (hm x h))) ?_
  simp -implicitDefEqProofs (maxDischargeDepth := 15) only [Yr, Ys, Yt, Wo, Wu, opA, Wv, Wx, Wy, Wz, Za, Zb, Vb, Zq, Zr]
  exact apart_c hS hf hg hB hx hB' hx' hpow heq he0 ⟨rfl, rfl, rfl, rfl, rfl, rfl, rfl, rfl, rfl, rfl, rfl, rfl, he0.symm, rfl, he0.symm⟩
theorem five {σ : AState} (hW : σ.Wf) (a b c d e : ABlk) : ∃ σ' : AState, σ' = ((((σ.push a).push b).push c).push d).push e ∧ σ'.Wf ∧ σ'.next = σ.next + 1 + 1 + 1 + 1 + 1 ∧ Sub σ.get σ'.get ∧ σ'.get σ.next = some a ∧ σ'.get (σ.next + 1) = some b ∧ σ'.get (σ.next + 1 + 1) = some c ∧ σ'.get (σ.next + 1 + 1 + 1) = some d ∧ σ'.get (σ.next + 1 + 1 + 1 + 1) = some e := by
  have w1 := hW.push a
  have w2 := w1.push b
  have w3 := w2.push c
  have w4 := w3.push d
  have s1 := sub_push hW a
  have s2 := sub_push w1 b
  have s3 := sub_push w2 c
  have s4 := sub_push w3 d
  have s5 := sub_push w4 e
  exact ⟨_, rfl, w4.push e, rfl, (((s1.trans s2).trans s3).trans s4).trans s5, s5 _ _ (s4 _ _ (s3 _ _ (s2 _ _ Vg))), s5 _ _ (s4 _ _ (s3 _ _ (Vg (σ := σ.push a)))), s5 _ _ (s4 _ _ (Vg (σ := (σ.push a).push b))), s5 _ _ (Vg (σ := ((σ.push a).push b).push c)), Vg (σ := (((σ.push a).push b).push c).push d)⟩
theorem fs_one {g : Mem} {i : Nat} {A : List AV} {f : F} {w : Bool} (hg : g i = some (.cells A w)) (hd : DAtL g f.dv A) : Fs g (some (i, 0)) 1 4 [f] := by
  have hl := hd.length
  rw [F.dv_len] at hl
  exact ⟨rfl, .inr rfl, .inr ⟨i, 0, A, w, A, rfl, hg, by omega, by rw [List.drop_zero, List.take_of_length_le (by omega)], by rw [dvs_one]; exact hd⟩⟩
theorem fs_two {g : Mem} {i : Nat} {A B : List AV} {f k : F} {w : Bool} (hg : g i = some (.cells (A ++ B) w)) (hd : DAtL g f.dv A) (hk : DAtL g k.dv B) : Fs g (some (i, 0)) 2 4 [f, k] := by
  have hl := hd.length
  have hl2 := hk.length
  rw [F.dv_len] at hl hl2
  refine ⟨rfl, .inr rfl, .inr ⟨i, 0, A ++ B, w, A ++ B, rfl, hg, by rw [List.length_append]; omega, by rw [List.drop_zero, List.take_of_length_le (by rw [List.length_append]; omega)], ?_⟩⟩
  rw [show F.dvs [f, k] = f.dv ++ k.dv by simp [F.dvs]]
  exact DAtL.append_iff.2 ⟨_, _, rfl, hd, hk⟩
set_option maxHeartbeats 8000000 in
theorem apart_law {σ : AState} {o o' : Option (Nat × Nat)} {n n' z z' : Nat} {l l' : List Nat} {sd m0 : Int} {pw : Bool} (hB : Bys σ.get o n z l) (hx : ∀ x ∈ l, x < 256) (hB' : Bys σ.get o' n' z' l') (hx' : ∀ x ∈ l', x < 256) (_h0 : σ.get 0 = some (.cells [.int .i64 m0] false))
    (hpow : σ.get 1 = some (.cells pow10L pw)) :
    RunF RR Tryz.prog n_law41_DescribeApart [.slice o n none z, .slice o' n' none z', .int .u8 sd] σ (fun u _ => u = .bool true) := by
  refine RunV.wf fun hW => ?_
  refine runF_intro hmx rf_law41_DescribeApart ?_
  simp -implicitDefEqProofs (maxDischargeDepth := 15) only [Yr, Ys, Yt, Wb, Wj, Wk, Wo, opA, Ww, Wz, Za, Zb, List.replicate, Zc, Zd, Ze, Vb, Zf, Zg, Zi, Nat.reduceAdd, Nat.reduceSub, Zk, i_law41_DescribeApart, c80_0, c80_1, c80_2, c80_3, c80_4, c80_5, c80_6, c80_29, c80_30, c80_31, c80_32, c80_33, c80_34]
  refine RunV.to (awake_ok _) ?_
  simp -implicitDefEqProofs (maxDischargeDepth := 15) only [Yr, Ys, Yt, Wa, Wb, Wg, Wj, Wk, Wl, Wo, Wu, opA, Wv, Ww, Wx, Wy, Wz, Za, Zb, Vb, Zh, Zi, Yb]
  refine (built_ok hB hx).mono ?_
  rintro u σ1 ⟨xs, rfl, hD, hG1⟩
  simp -implicitDefEqProofs (maxDischargeDepth := 15) only [Ys, Yt, Wb, Wu, opA, Wv, Ww, Wx, Wy, Wz, Za, Zb, Vb, Zh, Zi]
  refine (built_ok (hB'.sub hG1.sub) hx').mono ?_
  rintro u σ2 ⟨ys, rfl, hD', hG2⟩
  have hf := fit_built l
  have hg := fit_built l'
  generalize built l = f at *
  generalize built l' = g at *
  have hD1 := DAtL.sub hG2.sub _ _ hD
  obtain ⟨fo, fn, o1, n1, c1, z1, o2, n2, c2, z2, rfl⟩ := f_cells hD1
  obtain ⟨fo', fn', o1', n1', c1', z1', o2', n2', c2', z2', rfl⟩ := f_cells hD'
  have hs1 := sub_push hG2.wf (.cells [.int .u8 fo, .str fn, .slice o1 n1 c1 z1, .slice o2 n2 c2 z2] true)
  have hW1 := hG2.wf.push (.cells [.int .u8 fo, .str fn, .slice o1 n1 c1 z1, .slice o2 n2 c2 z2] true)
  have hs2 := sub_push hW1 (.cells [.int .u8 fo', .str fn', .slice o1' n1' c1' z1', .slice o2' n2' c2' z2'] true)
  have hW2 := hW1.push (.cells [.int .u8 fo', .str fn', .slice o1' n1' c1' z1', .slice o2' n2' c2' z2'] true)
  have h7 := hs2 _ _ (Vg (σ := σ2) (b := .cells [.int .u8 fo, .str fn, .slice o1 n1 c1 z1, .slice o2 n2 c2 z2] true))
  have h8 := Vg (σ := σ2.push (.cells [.int .u8 fo, .str fn, .slice o1 n1 c1 z1, .slice o2 n2 c2 z2] true)) (b := .cells [.int .u8 fo', .str fn', .slice o1' n1' c1' z1', .slice o2' n2' c2' z2'] true)
  have hDf := DAtL.sub hs2 _ _ (DAtL.sub hs1 _ _ hD1)
  have hDg := DAtL.sub hs2 _ _ (DAtL.sub hs1 _ _ hD')
  have hk : Grow σ ((σ2.push (.cells [.int .u8 fo, .str fn, .slice o1 n1 c1 z1, .slice o2 n2 c2 z2] true)).push (.cells [.int .u8 fo', .str fn', .slice o1' n1' c1' z1', .slice o2' n2' c2' z2'] true)) := ((hG1.trans hG2).push _).push _
  rw [AState.push_next] at h8
  simp -implicitDefEqProofs (maxDischargeDepth := 15) only [↓reduceIte, Yr, Ys, Yt, Wb, Wj, Wk, Wo, Wu, opA, Wv, Ww, Wx, Wy, Wz, Va, Za, Zb, Zd, Ze, Vb, Vc, Vd, Ve, AV.cells, Vg, Vh, Vi, Vk, Vl, Vq, Vr, partA, Zf, Zg, Zh, Zi, Nat.reduceAdd, Zj, Zk, Zm, Zn, Zo, Zp, Zs, Zt, putL, allOne, Zu, Zv, AV.one, Zy, and_self, eq_self, ne_eq, Yo]
  rw [two_sets]
  simp only [AState.push_next]
  have hn3 : ((σ2.push (.cells [.int .u8 fo, .str fn, .slice o1 n1 c1 z1, .slice o2 n2 c2 z2] true)).push (.cells [.int .u8 fo', .str fn', .slice o1' n1' c1' z1', .slice o2' n2' c2' z2'] true)).next = σ2.next + 1 + 1 := rfl
  generalize (σ2.push (.cells [.int .u8 fo, .str fn, .slice o1 n1 c1 z1, .slice o2 n2 c2 z2] true)).push (.cells [.int .u8 fo', .str fn', .slice o1' n1' c1' z1', .slice o2' n2' c2' z2'] true) = σ3 at *
  refine RunV.to (form_ok f hf.1 hf.2.1 (Nat.le_trans hf.2.2.1 (by omega)) _ _ hDf) ?_
  have h8l : σ2.next + 1 < σ3.next := by omega
  have h7l : σ2.next < σ3.next := by omega
  simp -implicitDefEqProofs (maxDischargeDepth := 15) only [↓reduceIte, Yr, Ys, Yt, Wb, Wj, Wk, Wo, Wu, opA, Wv, Ww, Wx, Wy, Wz, Za, Zb, Vb, partA, Zf, Zg, Zh, Zi, Nat.reduceAdd, Zj, Zk, Zm, Zo, Zq, Zr, Zt, h8]
  refine RunV.to (form_ok g hg.1 hg.2.1 (Nat.le_trans hg.2.2.1 (by omega)) _ _ hDg) ?_
  simp -implicitDefEqProofs (maxDischargeDepth := 15) only [↓reduceIte, Yr, Ys, Yt, Wc, Wj, Wk, Wo, Wu, opA, Wv, Wx, Wy, Wz, Va, Za, Zb, Zc, Zd, Ze, Vb, Vc, Vd, Ve, AV.cells, Vg, Vh, Vi, Vj, AState.set_next, Vl, Vq, Vr, partA, Zf, Zg, Zh, Zi, Nat.reduceAdd, Nat.reduceLeDiff, Zj, Zk, Zm, Zn, Zo, Zp, Zq, Zr, Zs, Zt, fillA, putL, allOne, Zu, Zv, AV.one, Zy, and_self, true_and, againOk, eq_self, ne_eq, Yo, h7, h7l, h8, h8l]
  rw [two_sets]
  simp only [AState.push_next]
  obtain ⟨σ5, e5, hW5, hn5, hs5, hA, hB5, hAB, h13, h14⟩ := five hk.wf (.cells [.int .u8 fo, .str fn, .slice o1 n1 c1 z1, .slice o2 n2 c2 z2] true) (.cells [.int .u8 fo', .str fn', .slice o1' n1' c1' z1', .slice o2' n2' c2' z2'] true)
    (.cells [.int .u8 fo, .str fn, .slice o1 n1 c1 z1, .slice o2 n2 c2 z2, .int .u8 fo', .str fn', .slice o1' n1' c1' z1', .slice o2' n2' c2' z2'] true) (.cells [.slice (some (σ3.next, 0)) 1 (some 1) 4, .slice (some (σ3.next + 1, 0)) 1 (some 1) 4] true) (.cells [.slice (some (σ3.next + 1 + 1, 0)) 2 (some 2) 4, .slice none 0 (some 0) 0] true)
  rw [← e5]
  have h75 := hs5 _ _ h7
  have h85 := hs5 _ _ h8
  have hf5 := DAtL.sub hs5 _ _ hDf
  have hg5 := DAtL.sub hs5 _ _ hDg
  have hks : Sub σ.get σ5.get := hk.sub.trans hs5
  have hFA := fs_one hA hf5
  have hFB := fs_one hB5 hg5
  by_cases hsd : sd.tmod 2 = 1
  · have b0 : (sd.tmod 2 == 1) = true := beq_iff_eq.2 hsd
    have b1 : σ2.next < σ5.next := by omega
    have b2 : σ2.next + 1 < σ5.next := by omega
    have b3 : σ3.next + 1 + 1 + 1 + 1 < σ5.next := by omega
    simp -implicitDefEqProofs (maxDischargeDepth := 15) only [↓reduceIte, Yr, Ys, Yt, Yz, Wj, Wk, Wl, Wo, opA, Wv, Ww, Wx, Wy, Wz, Va, Za, Zb, Zc, Zd, Ze, Vb, Vc, Vd, Ve, AV.cells, Vh, Vj, partA, Zf, Zg, Zh, Zi, Nat.reduceAdd, Nat.reduceLeDiff, Zj, Zk, Zm, Zn, Zo, Zp, Zs, Zt, binA, fillA, putL, allOne, Zu, Zv, AV.one, Zy, and_self, eq_self, c80_7, c80_8, c80_28, c80_28, h75, h85, h14, b0, b1, b3, show ((2 : Int) = 0) = False from by decide]
    have hsA := sub_push hW5 (.cells [.int .u8 fo', .str fn', .slice o1' n1' c1' z1', .slice o2' n2' c2' z2'] true)
    have hWA := hW5.push (.cells [.int .u8 fo', .str fn', .slice o1' n1' c1' z1', .slice o2' n2' c2' z2'] true)
    have hsB := sub_push hWA (.cells [.int .u8 fo, .str fn, .slice o1 n1 c1 z1, .slice o2 n2 c2 z2] true)
    have hWB := hWA.push (.cells [.int .u8 fo, .str fn, .slice o1 n1 c1 z1, .slice o2 n2 c2 z2] true)
    have hb0 := hsB _ _ (Vg (σ := σ5) (b := .cells [.int .u8 fo', .str fn', .slice o1' n1' c1' z1', .slice o2' n2' c2' z2'] true))
    have hb1 := Vg (σ := σ5.push (.cells [.int .u8 fo', .str fn', .slice o1' n1' c1' z1', .slice o2' n2' c2' z2'] true)) (b := .cells [.int .u8 fo, .str fn, .slice o1 n1 c1 z1, .slice o2 n2 c2 z2] true)
    have hsub : ∀ (C : ABlk) i b, i ≠ σ3.next + 1 + 1 + 1 + 1 → σ5.get i = some b → (((σ5.push (.cells [.int .u8 fo', .str fn', .slice o1' n1' c1' z1', .slice o2' n2' c2' z2'] true)).push (.cells [.int .u8 fo, .str fn, .slice o1 n1 c1 z1, .slice o2 n2 c2 z2] true)).set (σ3.next + 1 + 1 + 1 + 1) C).get i = some b := fun C i b hi e => by
      rw [Vl hi]; exact hsB _ _ (hsA _ _ e)
    have hsub3 : ∀ C : ABlk, Sub σ3.get (((σ5.push (.cells [.int .u8 fo', .str fn', .slice o1' n1' c1' z1', .slice o2' n2' c2' z2'] true)).push (.cells [.int .u8 fo, .str fn, .slice o1 n1 c1 z1, .slice o2 n2 c2 z2] true)).set (σ3.next + 1 + 1 + 1 + 1) C).get := fun C i b e => hsub C i b (by have := hk.wf.lt e; omega) (hs5 _ _ e)
    have hlt : σ3.next + 1 + 1 + 1 + 1 < ((σ5.push (.cells [.int .u8 fo', .str fn', .slice o1' n1' c1' z1', .slice o2' n2' c2' z2'] true)).push (.cells [.int .u8 fo, .str fn, .slice o1 n1 c1 z1, .slice o2 n2 c2 z2] true)).next := by simp only [AState.push_next]; omega
    have hne0 : σ5.next ≠ σ3.next + 1 + 1 + 1 + 1 := by omega
    have hne1 : (σ5.push (.cells [.int .u8 fo', .str fn', .slice o1' n1' c1' z1', .slice o2' n2' c2' z2'] true)).next ≠ σ3.next + 1 + 1 + 1 + 1 := by simp only [AState.push_next]; omega
    exact apart_b ⟨hWB.set hlt _, ⟨_, hsub3 _ _ _ h7, DAtL.sub (hsub3 _) _ _ hDf⟩, ⟨_, hsub3 _ _ _ h8, DAtL.sub (hsub3 _) _ _ hDg⟩, ⟨_, _, _, _, _, _, hsub _ _ _ (by omega) h13, fs_one (hsub _ _ _ (by omega) hA) (DAtL.sub (hsub3 _) _ _ hDf), fs_one (hsub _ _ _ (by omega) hB5) (DAtL.sub (hsub3 _) _ _ hDg)⟩,
        ⟨_, _, _, _, _, _, Vk, fs_one (by rw [Vl hne0]; exact hb0) (DAtL.sub (hsub3 _) _ _ hDg), fs_one (by rw [Vl hne1]; exact hb1) (DAtL.sub (hsub3 _) _ _ hDf), (fun h => by cases h), fun h => by cases h⟩⟩ hf hg (hB.sub (hk.sub.trans (hsub3 _))) hx (hB'.sub (hk.sub.trans (hsub3 _))) hx' (hsub3 _ _ _ (hk.sub _ _ hpow))
      (l2 := [g]) (r2 := [f]) ((claim_odd hf.2.2.2.2.1 hg.2.2.2.2.1 hf.2.2.2.2.2 hg.2.2.2.2.2).trans ⟨fun h => by rw [h], fun h => by injection h with h1 h2; injection h1⟩) (fun x h => by simpa [or_comm] using h) rfl rfl ⟨rfl, rfl, rfl, rfl, rfl, rfl, rfl, rfl, rfl, rfl, rfl⟩
  · have b0 : (sd.tmod 2 == 1) = false := beq_eq_false_iff_ne.2 hsd
    simp -implicitDefEqProofs (maxDischargeDepth := 15) only [↓reduceIte, Yr, Ys, Yt, Wa, Wg, Wj, Wk, Wl, Wo, opA, Wv, Ww, Wx, Wy, Wz, Za, Zb, Vb, binA, eq_self, c80_7, c80_8, c80_28, c80_28, b0, show ((2 : Int) = 0) = False from by decide]
    exact apart_b ⟨hW5, ⟨_, h75, hf5⟩, ⟨_, h85, hg5⟩, ⟨_, _, _, _, _, _, h13, hFA, hFB⟩, ⟨_, _, _, _, _, _, h14, (by refine fs_two (w := true) ?_ hf5 hg5; exact hAB), ⟨rfl, .inl rfl, .inl rfl⟩, (fun h => by cases h), fun _ => rfl⟩⟩ hf hg (hB.sub hks) hx (hB'.sub hks) hx' (hks _ _ hpow)
      ⟨fun h => absurd h (claim_even f g), fun h => by injection h with h1 h2; cases h2⟩ (fun x h => by simpa using h) rfl rfl ⟨rfl, rfl, rfl, rfl, rfl, rfl, rfl, rfl, rfl, rfl, rfl⟩
end Go.Am
