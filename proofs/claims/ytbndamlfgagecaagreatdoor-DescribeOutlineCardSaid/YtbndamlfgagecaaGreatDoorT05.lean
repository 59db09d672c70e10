/-
  A PART of the proof: DoW4, DoW5, DoW6, DoW7, AmTree, DoTab, DoSmall, AmLift.
-/
import Derived.Test.YtbndamlfgagecaaGreatDoorT04
import Derived.Test.YtbndamlfgagecaaGreatDoorT02
import Derived.Test.YtbndamlfgagecaaGreatDoorT03
import Derived.Carry
import Derived.ChangeSlices
import Derived.ChangeShapes
import Derived.WideShapes
set_option linter.unusedSimpArgs false
set_option linter.unusedVariables false
namespace Go.Am
open Go.RowKit Go.Proofs Do
set_option maxRecDepth 100000
def SubC (g h : Mem) : Prop := ∀ i l w, g i = some (.cells l w) → h i = some (.cells l w)
theorem Sub.c {g h : Mem} (s : Sub g h) : SubC g h := fun i l w e => s i _ e
mutual
theorem DAt.subC {g h : Mem} (s : SubC g h) : ∀ (d : DV) (v : AV), DAt g d v → DAt h d v
  | .int .., _, e | .bool _, _, e | .str _, _, e => by simpa [DAt] using e
  | .sl sz n cs, v, e => by
    simp only [DAt] at e ⊢
    obtain ⟨o, c, sz', hv, h1, h2, h3⟩ := e
    refine ⟨o, c, sz', hv, h1, h2.imp_right fun ⟨l, a, b⟩ => ⟨l, ?_, DAtL.subC s cs l b⟩, h3⟩
    unfold cellsAt at a ⊢
    cases o with
    | none => cases a
    | some p =>
      obtain ⟨i, off⟩ := p
      simp only at a ⊢
      split at a
      · rename_i hg; simp only [s _ _ _ hg]; exact a
      · cases a
theorem DAtL.subC {g h : Mem} (s : SubC g h) : ∀ (ds : List DV) (l : List AV), DAtL g ds l → DAtL h ds l
  | [], _, e => by simpa [DAtL] using e
  | d :: ds, l, e => by
    simp only [DAtL] at e ⊢
    obtain ⟨v, r, hl, a, b⟩ := e
    exact ⟨v, r, hl, DAt.subC s d v a, DAtL.subC s ds r b⟩
end
theorem subC_set {σ : AState} {i : Nat} {b : ABlk} (h : ∀ l w, σ.get i ≠ some (.cells l w)) : SubC σ.get (σ.set i b).get := fun j l w e => by
  rw [Vl (fun q => by subst q; exact h _ _ e)]; exact e
def TySt {S : Type} (St : S → AState → Prop) (lp b2 y : Nat) (ts0 : List AV) (s : S) (σ : AState) : Prop :=
  St s σ ∧ σ.get lp = some (.loop .ready none ts0 [19] c2_2 c2_6) ∧ σ.get b2 = some (.cells [.yieldf y] true)
theorem TySt.mk {S : Type} {St : S → AState → Prop} {lp b2 y : Nat} {ts0 : List AV} {s : S} {σ : AState} (h1 : St s σ) (h2 : σ.get lp = some (.loop .ready none ts0 [19] c2_2 c2_6)) (h3 : σ.get b2 = some (.cells [.yieldf y] true)) : TySt St lp b2 y ts0 s σ := ⟨h1, h2, h3⟩
def TyOwn (Own : Nat → Prop) (lp b2 : Nat) (i : Nat) : Prop := Own i ∨ i = lp ∨ i = b2
theorem tyIter {S : Type} {St : S → AState → Prop} {Own : Nat → Prop} {lp b2 y : Nat} {ts0 : List AV} (hI : Iter St Own) : Iter (TySt St lp b2 y ts0) (TyOwn Own lp b2) where
  own s σ i h k := by
    rcases k with k | rfl | rfl
    · exact hI.own s σ i h.1 k
    · exact ⟨_, h.2.1⟩
    · exact ⟨_, h.2.2⟩
  frame s σ σ' h k := ⟨hI.frame s σ σ' h.1 fun i hi => k i (.inl hi), by rw [k lp (.inr (.inl rfl))]; exact h.2.1, by rw [k b2 (.inr (.inr rfl))]; exact h.2.2⟩
theorem termsY_ok {S : Type} {St : S → AState → Prop} {step : S → T → S} {Own : Nat → Prop} {y lp b2 : Nat} (hI : Iter St Own) (hy : YT' St step Own (.yieldf y)) (hlp : ¬ Own lp) (hb2o : ¬ Own b2) (hne : b2 ≠ lp) {j0 j1 j3 j4 j5 j6 j7 j8 j9 j10 j11 j12 j13 j14 j15 j16 j17 j18 j19 j20 j21 j22 j23 j24 : AV} :
    YT' (TySt St lp b2 y [j0, j1, .ptr (some (b2, 0)), j3, j4, j5, j6, j7, j8, j9, j10, j11, j12, j13, j14, j15, j16, j17, j18, j19, j20, j21, j22, j23, j24]) step (TyOwn Own lp b2) (.yieldf lp) := by
  rintro s σ g xs t ht ⟨hS, hl, hb2⟩ hW hg hfree hD
  refine runY_intro hmx hl rfl ?_
  have hll := hW.lt hl
  have hbl := hW.lt hb2
  obtain ⟨v, nm, ar⟩ := t
  have hD2 := hD
  obtain ⟨o1, c1, z1, rfl, hA⟩ := T.cells hD
  simp -implicitDefEqProofs (maxDischargeDepth := 15) only [↓reduceIte, Yr, Ys, Yt, Yu, Yv, Yw, Yx, Yy, Yz, Wa, Wb, Wc, Wd, We, Wf, Wg, Wh, Wi, Wj, Wk, Wl, Wm, Wn, Wo, Wp, Wq, Wr, Ws, Wt, Wu, opA, Wv, Ww, Wx, Wy, Wz, Va, Za, Zb, List.replicate, Zc, Zd, Ze, Vb, Vc, Vd, Ve, Vf, AV.cells, Vg, Vh, Vi, Vj, AState.set_next, AState.kill_next, Vk, Vl, Vm, Vn, Vo, Vp, Vq, Vr, Vs, Vt, partA, Zf, Zg, Zh, Zi, if_true, if_false, Nat.reduceAdd, Nat.reduceLeDiff, Nat.reduceSub, Zj, Nat.zero_le, Zk, Zl, Zm, Zn, Zo, Zp, Zq, Zr, Zs, Zt, binA, eqA, kEq, nilEq, fillA, putL, allOne, Zu, Zv, AV.one, Zw, Zx, Zy, and_self, and_true, true_and, lenA, firstA, EndOk, resultA, oneOf, Zz, Ya, Yb, Yc, Yd, Ye, reduceCtorEq, Yf, Yg, natOf, upTo, bMax, bHigh, bLow, boundsA, evO, Yh, Yi, againOk, Vu, Vv, Vw, Yj, Yk, eq_self, Yl, Ym, Yn, setPs, or_true, true_or, false_or, or_false, ne_eq, Yo, Vx, Vy, Yp, Yq, i_syntax_termsS1, c2_0, c2_1, c2_2, c2_3, c2_4, c2_5, c2_7, c2_8, c2_9, c2_10, c2_11, c2_12, c2_13, c2_14, c2_15, c2_16, c2_17, c2_18, c2_19, hll]
  refine ⟨_, _, _, _, _, hl, ?_⟩
  generalize hσ3 : (σ.push (.cells [.bool v, .str nm, .slice o1 ar.length c1 z1] true)).set lp (.loop .busy none [j0, j1, .ptr (some (b2, 0)), j3, j4, j5, j6, j7, j8, j9, j10, j11, j12, j13, j14, j15, j16, j17, j18, j19, j20, j21, j22, j23, j24] [19] c2_2 c2_6) = σ3
  have hkeep : ∀ i b, i ≠ lp → σ.get i = some b → σ3.get i = some b := fun i b hi e => by
    rw [← hσ3, Vl hi, Vh (hW.lt e)]; exact e
  have hW3 : σ3.Wf := by rw [← hσ3]; exact (hW.push _).set (Vj hll) _
  have hlp3 : σ3.get lp = some (.loop .busy none [j0, j1, .ptr (some (b2, 0)), j3, j4, j5, j6, j7, j8, j9, j10, j11, j12, j13, j14, j15, j16, j17, j18, j19, j20, j21, j22, j23, j24] [19] c2_2 c2_6) := by rw [← hσ3, Vk]
  have hnx : σ3.next = σ.next + 1 := by rw [← hσ3]; rfl
  have h53 : σ3.get σ.next = some (.cells [.bool v, .str nm, .slice o1 ar.length c1 z1] true) := by rw [← hσ3, Vl (by omega), Vg]
  have hS3 : St s σ3 := hI.frame s σ _ hS fun i hi => by
    obtain ⟨b, hb⟩ := hI.own s σ i hS hi
    rw [hb]; exact hkeep i b (fun q => hlp (q ▸ hi)) hb
  have hg3 : Sub g σ3.get := fun i b e => hkeep i b (fun q => hfree i b e (.inr (.inl q))) (hg i b e)
  have hb23 := hkeep b2 _ hne hb2
  simp -implicitDefEqProofs (maxDischargeDepth := 15) only [↓reduceIte, Yr, Ys, Yt, Yu, Yv, Yw, Yx, Yy, Yz, Wa, Wb, Wc, Wd, We, Wf, Wg, Wh, Wi, Wj, Wk, Wl, Wm, Wn, Wo, Wp, Wq, Wr, Ws, Wt, Wu, opA, Wv, Ww, Wx, Wy, Wz, Va, Za, Zb, List.replicate, Zc, Zd, Ze, Vb, Vc, Vd, Ve, Vf, AV.cells, Vg, Vh, Vi, Vj, AState.set_next, AState.kill_next, Vk, Vl, Vm, Vn, Vo, Vp, Vq, Vr, Vs, Vt, partA, Zf, Zg, Zh, Zi, if_true, if_false, Nat.reduceAdd, Nat.reduceLeDiff, Nat.reduceSub, Zj, Nat.zero_le, Zk, Zl, Zm, Zn, Zo, Zp, Zq, Zr, Zs, Zt, binA, eqA, kEq, nilEq, fillA, putL, allOne, Zu, Zv, AV.one, Zw, Zx, Zy, and_self, and_true, true_and, lenA, firstA, EndOk, resultA, oneOf, Zz, Ya, Yb, Yc, Yd, Ye, reduceCtorEq, Yf, Yg, natOf, upTo, bMax, bHigh, bLow, boundsA, evO, Yh, Yi, againOk, Vu, Vv, Vw, Yj, Yk, eq_self, Yl, Ym, Yn, setPs, or_true, true_or, false_or, or_false, ne_eq, Yo, Vx, Vy, Yp, Yq, i_syntax_termsS1, c2_0, c2_1, c2_2, c2_3, c2_4, c2_5, c2_6, c2_7, c2_8, c2_9, c2_10, c2_11, c2_12, c2_13, c2_14, c2_15, c2_16, c2_17, c2_18, c2_19, hb23, h53]
  refine (hy s σ3 g _ _ ht hS3 hW3 hg3 (fun i b e q => hfree i b e (.inl q)) hD2).mono ?_
  rintro u σ4 ⟨rfl, hS4, hK4⟩
  have hlp4 := hK4.keep lp _ hlp hlp3
  simp -implicitDefEqProofs (maxDischargeDepth := 15) only [↓reduceIte, Yr, Ys, Yt, Yu, Yv, Yw, Yx, Yy, Yz, Wa, Wb, Wc, Wd, We, Wf, Wg, Wh, Wi, Wj, Wk, Wl, Wm, Wn, Wo, Wp, Wq, Wr, Ws, Wt, Wu, opA, Wv, Ww, Wx, Wy, Wz, Va, Za, Zb, List.replicate, Zc, Zd, Ze, Vb, Vc, Vd, Ve, Vf, AV.cells, Vg, Vh, Vi, Vj, AState.set_next, AState.kill_next, Vk, Vl, Vm, Vn, Vo, Vp, Vq, Vr, Vs, Vt, partA, Zf, Zg, Zh, Zi, if_true, if_false, Nat.reduceAdd, Nat.reduceLeDiff, Nat.reduceSub, Zj, Nat.zero_le, Zk, Zl, Zm, Zn, Zo, Zp, Zq, Zr, Zs, Zt, binA, eqA, kEq, nilEq, fillA, putL, allOne, Zu, Zv, AV.one, Zw, Zx, Zy, and_self, and_true, true_and, lenA, firstA, EndOk, resultA, oneOf, Zz, Ya, Yb, Yc, Yd, Ye, reduceCtorEq, Yf, Yg, natOf, upTo, bMax, bHigh, bLow, boundsA, evO, Yh, Yi, againOk, Vu, Vv, Vw, Yj, Yk, eq_self, Yl, Ym, Yn, setPs, or_true, true_or, false_or, or_false, ne_eq, Yo, Vx, Vy, Yp, Yq, i_syntax_termsS1, c2_0, c2_1, c2_2, c2_3, c2_4, c2_5, c2_6, c2_7, c2_8, c2_9, c2_10, c2_11, c2_12, c2_13, c2_14, c2_15, c2_16, c2_17, c2_18, c2_19, RoundEnd]
  refine ⟨_, _, _, _, _, hlp4, ⟨?_, Vk, ?_⟩, ?_, ?_, ?_⟩
  · exact hI.frame _ σ4 _ hS4 fun i hi => Vl (fun q => hlp (q ▸ hi))
  · rw [Vl hne]; exact hK4.keep b2 _ hb2o hb23
  · have := hK4.le; show σ.next ≤ σ4.next; omega
  · intro i b hi e
    have h1 : i ≠ lp := fun q => hi (.inr (.inl q))
    rw [Vl h1]
    exact hK4.keep i b (fun q => hi (.inl q)) (hkeep i b h1 e)
  · exact hK4.wf.set (hK4.wf.lt hlp4) _
theorem termsS1_ok : ∀ (m : Nat) (l : List T), T.cnts l ≤ m → m ≤ 1152921504606846976 → ∀ (S : Type) (St : S → AState → Prop) (step : S → T → S) (Own : Nat → Prop) (y : Nat), Iter St Own → YT' St step Own (.yieldf y) →
    ∀ (s : S) (σ : AState) (g : Mem) (b : Nat) (o : Option (Nat × Nat)) (n : Nat) (c : Option Nat) (z : Nat), St s σ → Sub g σ.get → Free Own g → Ts g o n z l → σ.get b = some (.cells [.slice o n c z] true) → ¬ Own b →
    RunV RR Tryz.prog (.func (.func n_syntax_termsS1) [] [.ptr (some (b, 0))]) [.yieldf y] σ (fun u σ' => St (T.folds step s l) σ' ∧ Kept Own σ σ') := by
  intro m
  induction m using Nat.strongRecOn with
  | _ m ih =>
  intro l hl hm S St step Own y hI hy s σ g b o n c z hS hg0 hfree hT hb hbo
  refine RunV.wf fun hW => ?_
  refine runF_intro hmx rf_syntax_termsS1 ?_
  have hn : n = l.length := hT.1
  have hlen := cnts_len l
  have hbl := hW.lt hb
  have hOl : ∀ i, Own i → i < σ.next := fun i hi => hI.lt hW hS hi
  have hOn : ¬ Own σ.next := fun h => by have := hOl _ h; omega
  simp -implicitDefEqProofs (maxDischargeDepth := 15) only [↓reduceIte, Yr, Ys, Yt, Yu, Yv, Yw, Yx, Yy, Yz, Wa, Wb, Wc, Wd, We, Wf, Wg, Wh, Wi, Wj, Wk, Wl, Wm, Wn, Wo, Wp, Wq, Wr, Ws, Wt, Wu, opA, Wv, Ww, Wx, Wy, Wz, Va, Za, Zb, List.replicate, Zc, Zd, Ze, Vb, Vc, Vd, Ve, Vf, AV.cells, Vg, Vh, Vi, Vj, AState.set_next, AState.kill_next, Vk, Vl, Vm, Vn, Vo, Vp, Vq, Vr, Vs, Vt, partA, Zf, Zg, Zh, Zi, if_true, if_false, Nat.reduceAdd, Nat.reduceLeDiff, Nat.reduceSub, Zj, Nat.zero_le, Zk, Zl, Zm, Zn, Zo, Zp, Zq, Zr, Zs, Zt, binA, eqA, kEq, nilEq, fillA, putL, allOne, Zu, Zv, AV.one, Zw, Zx, Zy, and_self, and_true, true_and, lenA, firstA, EndOk, resultA, oneOf, Zz, Ya, Yb, Yc, Yd, Ye, reduceCtorEq, Yf, Yg, natOf, upTo, bMax, bHigh, bLow, boundsA, evO, Yh, Yi, againOk, Vu, Vv, Vw, Yj, Yk, eq_self, Yl, Ym, Yn, setPs, or_true, true_or, false_or, or_false, ne_eq, Yo, Vx, Vy, Yp, Yq, i_syntax_termsS1, c2_0, c2_1, c2_3, c2_4, c2_5, c2_7, c2_8, c2_9, c2_10, c2_11, c2_12, c2_13, c2_14, c2_15, c2_16, c2_17, c2_18, c2_19, hbl, hb]
  refine wp_loop (fun ts σ' m => ∃ k : Nat, St (T.folds step s (l.take k)) σ' ∧ Kept Own (σ.push (.cells [.yieldf y] true)) σ' ∧ k + m = n ∧ ∃ j0 j3 j4 j5 j9 j10 j11 j12 j13 j14 j15 j16 j17 j18 j19 j20 j21 j22 j23 j24 : AV, ts = [j0, .ptr (some (b, 0)), .ptr (some (σ.next, 0)), j3, j4, j5, .slice o n c z, .int .i64 n, .int .i64 k, j9, j10, j11, j12, j13, j14, j15, j16, j17, j18, j19, j20, j21, j22, j23, j24]) n ⟨0, hI.push hW hS _, Kept.refl (hW.push _), by omega, _, _, _, _, _, _, _, _, _, _, _, _, _, _, _, _, _, _, _, _, rfl⟩ ?_
  rintro m' ts σ' ⟨k, hSk, hK, hk, j0, j3, j4, j5, j9, j10, j11, j12, j13, j14, j15, j16, j17, j18, j19, j20, j21, j22, j23, j24, rfl⟩
  have hgk : Sub g σ'.get := hK.sub hfree (hg0.trans (sub_push hW _))
  have hb2 := hK.keep σ.next _ hOn Vg
  have hb2l := hK.wf.lt hb2
  by_cases hlt : k < n
  · obtain ⟨t, ht, htm⟩ := get_lt (l := l) (k := k) (by omega)
    obtain ⟨rfl, i, off, cs, w, rfl, hg, hlen3, xs, hxs, hd2⟩ := hT.elem ht
    have hgi := hgk _ _ hg
    have hnt := cnts_mem htm
    obtain ⟨v, nm, ar⟩ := t
    have hd3 := hd2
    obtain ⟨o1, c1, z1, rfl, hA⟩ := T.cells hd2
    have hi := hK.wf.lt hgi
    have hd : decide ((k : Int) < n) = true := decide_eq_true (by omega)
    have e1 : (0 : Int) ≤ (k : Int) ∧ (k : Int) < (n : Int) := by omega
    have hnt' := hnt
    simp only [T.cnt] at hnt'
    simp -implicitDefEqProofs (maxDischargeDepth := 15) only [↓reduceIte, Yr, Ys, Yt, Yu, Yv, Yw, Yx, Yy, Yz, Wa, Wb, Wc, Wd, We, Wf, Wg, Wh, Wi, Wj, Wk, Wl, Wm, Wn, Wo, Wp, Wq, Wr, Ws, Wt, Wu, opA, Wv, Ww, Wx, Wy, Wz, Va, Za, Zb, List.replicate, Zc, Zd, Ze, Vb, Vc, Vd, Ve, Vf, AV.cells, Vg, Vh, Vi, Vj, AState.set_next, AState.kill_next, Vk, Vl, Vm, Vn, Vo, Vp, Vq, Vr, Vs, Vt, partA, Zf, Zg, Zh, Zi, if_true, if_false, Nat.reduceAdd, Nat.reduceLeDiff, Nat.reduceSub, Zj, Nat.zero_le, Zk, Zl, Zm, Zn, Zo, Zp, Zq, Zr, Zs, Zt, binA, eqA, kEq, nilEq, fillA, putL, allOne, Zu, Zv, AV.one, Zw, Zx, Zy, and_self, and_true, true_and, lenA, firstA, EndOk, resultA, oneOf, Zz, Ya, Yb, Yc, Yd, Ye, reduceCtorEq, Yf, Yg, natOf, upTo, bMax, bHigh, bLow, boundsA, evO, Yh, Yi, againOk, Vu, Vv, Vw, Yj, Yk, eq_self, Yl, Ym, Yn, setPs, or_true, true_or, false_or, or_false, ne_eq, Yo, Vx, Vy, Yp, Yq, i_syntax_termsS1, c2_0, c2_1, c2_3, c2_4, c2_5, c2_7, c2_8, c2_9, c2_10, c2_11, c2_12, c2_13, c2_14, c2_15, c2_16, c2_17, c2_18, c2_19, hd, e1, hgi, hlen3, hxs, hi, hb2, hb2l]
    have hOl' : ∀ i, Own i → i < σ'.next := fun i hi => hI.lt hK.wf hSk hi
    have hOn' : ¬ Own σ'.next := fun h => by have := hOl' _ h; omega
    refine (hy _ _ g _ (.mk v nm ar) (by omega) (hI.push hK.wf hSk _) (hK.wf.push _) (hgk.trans (sub_push hK.wf _)) hfree hd3).mono ?_
    rintro u σ1 ⟨rfl, hS1, hK1⟩
    have hb3 := hK1.keep σ'.next _ hOn' Vg
    have hb3l := hK1.wf.lt hb3
    have hb4 := hK1.keep σ.next _ hOn (by rw [Vh hb2l]; exact hb2)
    have hb4l := hK1.wf.lt hb4
    have hg1 : Sub g σ1.get := hK1.sub hfree (hgk.trans (sub_push hK.wf _))
    simp -implicitDefEqProofs (maxDischargeDepth := 15) only [↓reduceIte, Yr, Ys, Yt, Yu, Yv, Yw, Yx, Yy, Yz, Wa, Wb, Wc, Wd, We, Wf, Wg, Wh, Wi, Wj, Wk, Wl, Wm, Wn, Wo, Wp, Wq, Wr, Ws, Wt, Wu, opA, Wv, Ww, Wx, Wy, Wz, Va, Za, Zb, List.replicate, Zc, Zd, Ze, Vb, Vc, Vd, Ve, Vf, AV.cells, Vg, Vh, Vi, Vj, AState.set_next, AState.kill_next, Vk, Vl, Vm, Vn, Vo, Vp, Vq, Vr, Vs, Vt, partA, Zf, Zg, Zh, Zi, if_true, if_false, Nat.reduceAdd, Nat.reduceLeDiff, Nat.reduceSub, Zj, Nat.zero_le, Zk, Zl, Zm, Zn, Zo, Zp, Zq, Zr, Zs, Zt, binA, eqA, kEq, nilEq, fillA, putL, allOne, Zu, Zv, AV.one, Zw, Zx, Zy, and_self, and_true, true_and, lenA, firstA, EndOk, resultA, oneOf, Zz, Ya, Yb, Yc, Yd, Ye, reduceCtorEq, Yf, Yg, natOf, upTo, bMax, bHigh, bLow, boundsA, evO, Yh, Yi, againOk, Vu, Vv, Vw, Yj, Yk, eq_self, Yl, Ym, Yn, setPs, or_true, true_or, false_or, or_false, ne_eq, Yo, Vx, Vy, Yp, Yq, i_syntax_termsS1, c2_0, c2_1, c2_3, c2_4, c2_5, c2_7, c2_8, c2_9, c2_10, c2_11, c2_12, c2_13, c2_14, c2_15, c2_16, c2_17, c2_18, c2_19, hb3]
    refine RunV.to (terms_ok _ _ _ _ _) ?_
    simp -implicitDefEqProofs (maxDischargeDepth := 15) only [↓reduceIte, Yr, Ys, Yt, Yu, Yv, Yw, Yx, Yy, Yz, Wa, Wb, Wc, Wd, We, Wf, Wg, Wh, Wi, Wj, Wk, Wl, Wm, Wn, Wo, Wp, Wq, Wr, Ws, Wt, Wu, opA, Wv, Ww, Wx, Wy, Wz, Va, Za, Zb, List.replicate, Zc, Zd, Ze, Vb, Vc, Vd, Ve, Vf, AV.cells, Vg, Vh, Vi, Vj, AState.set_next, AState.kill_next, Vk, Vl, Vm, Vn, Vo, Vp, Vq, Vr, Vs, Vt, partA, Zf, Zg, Zh, Zi, if_true, if_false, Nat.reduceAdd, Nat.reduceLeDiff, Nat.reduceSub, Zj, Nat.zero_le, Zk, Zl, Zm, Zn, Zo, Zp, Zq, Zr, Zs, Zt, binA, eqA, kEq, nilEq, fillA, putL, allOne, Zu, Zv, AV.one, Zw, Zx, Zy, and_self, and_true, true_and, lenA, firstA, EndOk, resultA, oneOf, Zz, Ya, Yb, Yc, Yd, Ye, reduceCtorEq, Yf, Yg, natOf, upTo, bMax, bHigh, bLow, boundsA, evO, Yh, Yi, againOk, Vu, Vv, Vw, Yj, Yk, eq_self, Yl, Ym, Yn, setPs, or_true, true_or, false_or, or_false, ne_eq, Yo, Vx, Vy, Yp, Yq, i_syntax_termsS1, c2_0, c2_1, c2_3, c2_4, c2_5, c2_7, c2_8, c2_9, c2_10, c2_11, c2_12, c2_13, c2_14, c2_15, c2_16, c2_17, c2_18, c2_19, hb3]
    have hWp := hK1.wf.push (.cells [.slice o1 ar.length c1 z1] true)
    generalize hσ2 : σ1.push (.cells [.slice o1 ar.length c1 z1] true) = σ2
    rw [hσ2] at hWp
    have h12 : Sub σ1.get σ2.get := by rw [← hσ2]; exact sub_push hK1.wf _
    have hn12 : σ2.next = σ1.next + 1 := by rw [← hσ2]; rfl
    have hcl : σ2.get σ1.next = some (.cells [.slice o1 ar.length c1 z1] true) := by rw [← hσ2, Vg]
    have hS2 : St (step (T.folds step s (l.take k)) (.mk v nm ar)) σ2 := by rw [← hσ2]; exact hI.push hK1.wf hS1 _
    have hOl1 : ∀ i, Own i → i < σ1.next := fun i hi => hI.lt hK1.wf hS1 hi
    have hlpo : ¬ Own σ2.next := fun h => by have := hOl1 _ h; omega
    have hb2l1 : σ.next < σ1.next := hK1.wf.lt hb4
    refine RunV.mono (ih (T.cnts ar) (by omega) ar (Nat.le_refl _) (by omega) S _ step _ σ2.next (tyIter hI) (termsY_ok hI hy hlpo hOn (by omega)) (step (T.folds step s (l.take k)) (.mk v nm ar)) _ g σ1.next o1 ar.length c1 z1 (TySt.mk (hI.push hWp hS2 _) Vg (by rw [Vh (by omega)]; exact h12 _ _ hb4)) ?_ ?_ hA ?_ ?_) ?_
    · exact (hg1.trans h12).trans (sub_push hWp _)
    · intro i b hb hi
      rcases hi with hi | rfl | rfl
      · exact hfree i b hb hi
      · have := hK1.wf.lt (hg1 _ _ hb); omega
      · have := hW.lt (hg0 _ _ hb); omega
    · rw [Vh (by omega)]; exact hcl
    · rintro (h | h | h)
      · have := hOl1 _ h; omega
      · omega
      · omega
    · rintro u σ5 ⟨⟨hS5, hl5, hb5⟩, hK5⟩
      rw [rangeK_ok hl5]
      simp -implicitDefEqProofs (maxDischargeDepth := 15) only [↓reduceIte, Yr, Ys, Yt, Yu, Yv, Yw, Yx, Yy, Yz, Wa, Wb, Wc, Wd, We, Wf, Wg, Wh, Wi, Wj, Wk, Wl, Wm, Wn, Wo, Wp, Wq, Wr, Ws, Wt, Wu, opA, Wv, Ww, Wx, Wy, Wz, Va, Za, Zb, List.replicate, Zc, Zd, Ze, Vb, Vc, Vd, Ve, Vf, AV.cells, Vg, Vh, Vi, Vj, AState.set_next, AState.kill_next, Vk, Vl, Vm, Vn, Vo, Vp, Vq, Vr, Vs, Vt, partA, Zf, Zg, Zh, Zi, if_true, if_false, Nat.reduceAdd, Nat.reduceLeDiff, Nat.reduceSub, Zj, Nat.zero_le, Zk, Zl, Zm, Zn, Zo, Zp, Zq, Zr, Zs, Zt, binA, eqA, kEq, nilEq, fillA, putL, allOne, Zu, Zv, AV.one, Zw, Zx, Zy, and_self, and_true, true_and, lenA, firstA, EndOk, resultA, oneOf, Zz, Ya, Yb, Yc, Yd, Ye, reduceCtorEq, Yf, Yg, natOf, upTo, bMax, bHigh, bLow, boundsA, evO, Yh, Yi, againOk, Vu, Vv, Vw, Yj, Yk, eq_self, Yl, Ym, Yn, setPs, or_true, true_or, false_or, or_false, ne_eq, Yo, Vx, Vy, Yp, Yq, i_syntax_termsS1, c2_0, c2_1, c2_3, c2_4, c2_5, c2_7, c2_8, c2_9, c2_10, c2_11, c2_12, c2_13, c2_14, c2_15, c2_16, c2_17, c2_18, c2_19]
      rw [wrap_i64 (n := (k : Int) + 1) (by omega)]
      have hS6 : St (T.folds step s (l.take (k + 1))) (σ5.kill σ2.next) := by
        rw [tfolds_take step ht]
        exact hI.frame _ σ5 _ hS5 fun i hi => Vm (fun q => by subst q; exact hlpo hi)
      have hK6 : Kept Own (σ.push (.cells [.yieldf y] true)) (σ5.kill σ2.next) := by
        refine ⟨?_, ?_, hK5.wf.kill _⟩
        · have h1 := hK.le; have h2 := hK1.le; have h3 := hK5.le
          show (σ.push _).next ≤ σ5.next
          have h4 : (σ2.push (.loop .ready none [] [] .skip .skip)).next = σ2.next + 1 := rfl
          have h5 : (σ'.push (.loop .ready none [] [] .skip .skip)).next = σ'.next + 1 := rfl
          simp only [AState.push_next] at h1 h2 h3 ⊢
          omega
        · intro i b hi e
          by_cases hib : i = σ.next
          · subst hib
            rw [Vg] at e; cases e
            rw [Vm (by omega)]; exact hb5
          · have e1 := hK.keep i b hi e
            have e2 := hK1.keep i b hi ((sub_push hK.wf _) i b e1)
            have e3 := h12 i b e2
            have hil := hK1.wf.lt e2
            rw [Vm (by omega)]
            refine hK5.keep i b ?_ ((sub_push hWp _) i b e3)
            rintro (h | h | h)
            · exact hi h
            · omega
            · exact hib h
      exact ⟨m' - 1, by omega, k + 1, hS6, hK6, by omega, _, _, _, _, _, _, _, _, _, _, _, _, _, _, _, _, _, _, _, _, rfl⟩
  · have hd : decide ((k : Int) < n) = false := decide_eq_false (by omega)
    simp -implicitDefEqProofs (maxDischargeDepth := 15) only [↓reduceIte, Yr, Ys, Yt, Yu, Yv, Yw, Yx, Yy, Yz, Wa, Wb, Wc, Wd, We, Wf, Wg, Wh, Wi, Wj, Wk, Wl, Wm, Wn, Wo, Wp, Wq, Wr, Ws, Wt, Wu, opA, Wv, Ww, Wx, Wy, Wz, Va, Za, Zb, List.replicate, Zc, Zd, Ze, Vb, Vc, Vd, Ve, Vf, AV.cells, Vg, Vh, Vi, Vj, AState.set_next, AState.kill_next, Vk, Vl, Vm, Vn, Vo, Vp, Vq, Vr, Vs, Vt, partA, Zf, Zg, Zh, Zi, if_true, if_false, Nat.reduceAdd, Nat.reduceLeDiff, Nat.reduceSub, Zj, Nat.zero_le, Zk, Zl, Zm, Zn, Zo, Zp, Zq, Zr, Zs, Zt, binA, eqA, kEq, nilEq, fillA, putL, allOne, Zu, Zv, AV.one, Zw, Zx, Zy, and_self, and_true, true_and, lenA, firstA, EndOk, resultA, oneOf, Zz, Ya, Yb, Yc, Yd, Ye, reduceCtorEq, Yf, Yg, natOf, upTo, bMax, bHigh, bLow, boundsA, evO, Yh, Yi, againOk, Vu, Vv, Vw, Yj, Yk, eq_self, Yl, Ym, Yn, setPs, or_true, true_or, false_or, or_false, ne_eq, Yo, Vx, Vy, Yp, Yq, i_syntax_termsS1, c2_0, c2_1, c2_3, c2_4, c2_5, c2_7, c2_8, c2_9, c2_10, c2_11, c2_12, c2_13, c2_14, c2_15, c2_16, c2_17, c2_18, c2_19, hd]
    have : l.take k = l := List.take_of_length_le (by omega)
    rw [this] at hSk
    exact ⟨hSk, ((Kept.refl hW).push _).trans hK⟩
end Go.Am
namespace Go.Am
open Go.RowKit Go.Proofs Do
set_option maxRecDepth 100000
abbrev wI (n : Nat) : AV := .int .i64 (IntKind.wrap .i64 n)
theorem wrap_add1 (s : Nat) : wrapF .i64 (IntKind.wrap .i64 s + 1) = IntKind.wrap .i64 ((s + 1 : Nat) : Int) := by
  rw [wrapF_eq, IntKind.wrap_i64, IntKind.wrap_i64, IntKind.wrap_i64]; omega
def NSt2 (c lp : Nat) (ts0 : List AV) (s : Nat) (σ : AState) : Prop := σ.get c = some (.cells [wI s] true) ∧ σ.get lp = some (.loop .ready none ts0 [13] .skip c16_2)
theorem NSt2.mk {c lp : Nat} {ts0 : List AV} {s : Nat} {σ : AState} (h : σ.get c = some (.cells [wI s] true)) (k : σ.get lp = some (.loop .ready none ts0 [13] .skip c16_2)) : NSt2 c lp ts0 s σ := ⟨h, k⟩
def NSt (c lp : Nat) (ts0 : List AV) (s : Nat) (σ : AState) : Prop := σ.get c = some (.cells [wI s] true) ∧ σ.get lp = some (.loop .ready none ts0 [7] c16_0 c16_7)
theorem NSt.mk {c lp : Nat} {ts0 : List AV} {s : Nat} {σ : AState} (h : σ.get c = some (.cells [wI s] true)) (k : σ.get lp = some (.loop .ready none ts0 [7] c16_0 c16_7)) : NSt c lp ts0 s σ := ⟨h, k⟩
def NOwn (c lp : Nat) (i : Nat) : Prop := i = c ∨ i = lp
theorem nIter2 (c lp : Nat) (ts0 : List AV) : Iter (NSt2 c lp ts0) (NOwn c lp) where
  own s σ i h k := by
    rcases k with rfl | rfl
    · exact ⟨_, h.1⟩
    · exact ⟨_, h.2⟩
  frame s σ σ' h k := ⟨by rw [k c (.inl rfl)]; exact h.1, by rw [k lp (.inr rfl)]; exact h.2⟩
theorem nIter (c lp : Nat) (ts0 : List AV) : Iter (NSt c lp ts0) (NOwn c lp) where
  own s σ i h k := by
    rcases k with rfl | rfl
    · exact ⟨_, h.1⟩
    · exact ⟨_, h.2⟩
  frame s σ σ' h k := ⟨by rw [k c (.inl rfl)]; exact h.1, by rw [k lp (.inr rfl)]; exact h.2⟩
theorem nodesY2_ok {c lp : Nat} (hne : c ≠ lp) {j0 j1 j2 j4 j5 j6 j7 j8 j9 j10 j11 j12 j13 j14 j15 j16 : AV} : YT' (NSt2 c lp [j0, j1, j2, .ptr (some (c, 0)), j4, j5, j6, j7, j8, j9, j10, j11, j12, j13, j14, j15, j16]) (fun s _ => s + 1) (NOwn c lp) (.yieldf lp) := by
  rintro s σ g xs t ht ⟨hc, hl⟩ hW hg hfree hD
  refine runY_intro hmx hl rfl ?_
  have hll := hW.lt hl
  have hcl := hW.lt hc
  simp -implicitDefEqProofs (maxDischargeDepth := 15) only [↓reduceIte, Yr, Ys, Yt, Yu, Yv, Yw, Yx, Yy, Yz, Wa, Wb, Wc, Wd, We, Wf, Wg, Wh, Wi, Wj, Wk, Wl, Wm, Wn, Wo, Wp, Wq, Wr, Ws, Wt, Wu, opA, Wv, Ww, Wx, Wy, Wz, Va, Za, Zb, List.replicate, Zc, Zd, Ze, Vb, Vc, Vd, Ve, Vf, AV.cells, Vg, Vh, Vi, Vj, AState.set_next, AState.kill_next, Vk, Vl, Vm, Vn, Vo, Vp, Vq, Vr, Vs, Vt, partA, Zf, Zg, Zh, Zi, if_true, if_false, Nat.reduceAdd, Nat.reduceLeDiff, Nat.reduceSub, Zj, Nat.zero_le, Zk, Zl, Zm, Zn, Zo, Zp, Zq, Zr, Zs, Zt, binA, eqA, kEq, nilEq, fillA, putL, allOne, Zu, Zv, AV.one, Zw, Zx, Zy, and_self, and_true, true_and, lenA, firstA, EndOk, resultA, oneOf, Zz, Ya, Yb, Yc, Yd, Ye, reduceCtorEq, Yf, Yg, natOf, upTo, bMax, bHigh, bLow, boundsA, evO, Yh, Yi, againOk, Vu, Vv, Vw, Yj, Yk, eq_self, Yl, Ym, Yn, setPs, or_true, true_or, false_or, or_false, ne_eq, Yo, Vx, Vy, Yp, Yq, i_syntax_Nodes, c16_0, c16_1, c16_2, c16_3, c16_4, c16_5, c16_6, c16_7, c16_8, c16_9, c16_10, c16_11, c16_12, c16_13]
  refine ⟨_, _, _, _, _, hl, ?_⟩
  have hne' : lp ≠ c := Ne.symm hne
  have hc1 : (σ.set lp (.loop .busy none [j0, j1, j2, .ptr (some (c, 0)), j4, j5, j6, j7, j8, j9, j10, j11, j12, j13, j14, j15, j16] [13] .skip c16_2)).get c = some (.cells [wI s] true) := by rw [Vl hne]; exact hc
  simp -implicitDefEqProofs (maxDischargeDepth := 15) only [↓reduceIte, Yr, Ys, Yt, Yu, Yv, Yw, Yx, Yy, Yz, Wa, Wb, Wc, Wd, We, Wf, Wg, Wh, Wi, Wj, Wk, Wl, Wm, Wn, Wo, Wp, Wq, Wr, Ws, Wt, Wu, opA, Wv, Ww, Wx, Wy, Wz, Va, Za, Zb, List.replicate, Zc, Zd, Ze, Vb, Vc, Vd, Ve, Vf, AV.cells, Vg, Vh, Vi, Vj, AState.set_next, AState.kill_next, Vk, Vl, Vm, Vn, Vo, Vp, Vq, Vr, Vs, Vt, partA, Zf, Zg, Zh, Zi, if_true, if_false, Nat.reduceAdd, Nat.reduceLeDiff, Nat.reduceSub, Zj, Nat.zero_le, Zk, Zl, Zm, Zn, Zo, Zp, Zq, Zr, Zs, Zt, binA, eqA, kEq, nilEq, fillA, putL, allOne, Zu, Zv, AV.one, Zw, Zx, Zy, and_self, and_true, true_and, lenA, firstA, EndOk, resultA, oneOf, Zz, Ya, Yb, Yc, Yd, Ye, reduceCtorEq, Yf, Yg, natOf, upTo, bMax, bHigh, bLow, boundsA, evO, Yh, Yi, againOk, Vu, Vv, Vw, Yj, Yk, eq_self, Yl, Ym, Yn, setPs, or_true, true_or, false_or, or_false, ne_eq, Yo, Vx, Vy, Yp, Yq, i_syntax_Nodes, c16_0, c16_1, c16_3, c16_4, c16_5, c16_6, c16_7, c16_8, c16_9, c16_10, c16_11, c16_12, c16_13, hc, hc1, hne, hne', wrap_add1, RoundEnd]
  refine ⟨_, _, _, _, _, by first | rfl | rw [Vl hne', Vk], ⟨?_, Vk⟩, Nat.le_refl _, ?_, ?_⟩
  · rw [Vl hne, Vk]
  · intro i b hi e
    have h1 : i ≠ c := fun q => hi (.inl q)
    have h2 : i ≠ lp := fun q => hi (.inr q)
    rw [Vl h2, Vl h1, Vl h2]; exact e
  · exact ((hW.set hll _).set hcl _).set hll _
theorem tfolds_cnt (l : List T) (s : Nat) : T.folds (fun s _ => s + 1) s l = s + T.cnts l := by
  have key : ∀ (m : Nat) (l : List T) (s : Nat), T.cnts l ≤ m → T.folds (fun s _ => s + 1) s l = s + T.cnts l := by
    intro m
    induction m with
    | zero =>
      intro l s h
      cases l with
      | nil => simp [T.folds, T.cnts]
      | cons a r => cases a; simp [T.cnts, T.cnt] at h
    | succ m ih =>
      intro l
      induction l with
      | nil => intro s _; simp [T.folds, T.cnts]
      | cons a r ih2 =>
        intro s h
        obtain ⟨v, n, ar⟩ := a
        simp only [T.cnts, T.cnt] at h
        simp only [T.folds, T.fold, T.cnts, T.cnt]
        rw [ih ar _ (by omega), ih2 _ (by omega)]
        omega
  exact key _ l s (Nat.le_refl _)
def fArgs : F → List T
  | .mk _ _ ar _ => ar
mutual
theorem ffold_nodes : ∀ (f : F) (s : Nat), F.fold (fun s f => s + 1 + T.cnts (fArgs f)) s f = s + f.nodes
  | .mk op n ar l, s => by
    simp only [F.fold, F.nodes]
    show F.folds (fun s f => s + 1 + T.cnts (fArgs f)) (s + 1 + T.cnts ar) l = _
    rw [ffolds_nodes l]; omega
theorem ffolds_nodes : ∀ (l : List F) (s : Nat), F.folds (fun s f => s + 1 + T.cnts (fArgs f)) s l = s + F.nodess l
  | [], s => by simp [F.folds, F.nodess]
  | f :: r, s => by simp only [F.folds, F.nodess]; rw [ffold_nodes f, ffolds_nodes r]; omega
end
theorem nodesY_ok {c lp : Nat} (hne : c ≠ lp) {j0 j1 j2 j4 j5 j6 j7 j8 j9 j10 j11 j12 j13 j14 j15 j16 : AV} : YF' (NSt c lp [j0, j1, j2, .ptr (some (c, 0)), j4, j5, j6, j7, j8, j9, j10, j11, j12, j13, j14, j15, j16]) (fun s f => s + 1 + T.cnts (fArgs f)) (NOwn c lp) (.yieldf lp) := by
  rintro s σ g xs f hf ⟨hc, hl⟩ hW hg hfree hD
  refine runY_intro hmx hl rfl ?_
  have hll := hW.lt hl
  have hcl := hW.lt hc
  have hne' : lp ≠ c := Ne.symm hne
  obtain ⟨op, nm, ar, l⟩ := f
  simp only [F.nodes] at hf
  obtain ⟨o1, c1, z1, o2, c2, z2, rfl, hA, hL⟩ := F.cells hD
  simp -implicitDefEqProofs (maxDischargeDepth := 15) only [↓reduceIte, Yr, Ys, Yt, Yu, Yv, Yw, Yx, Yy, Yz, Wa, Wb, Wc, Wd, We, Wf, Wg, Wh, Wi, Wj, Wk, Wl, Wm, Wn, Wo, Wp, Wq, Wr, Ws, Wt, Wu, opA, Wv, Ww, Wx, Wy, Wz, Va, Za, Zb, List.replicate, Zc, Zd, Ze, Vb, Vc, Vd, Ve, Vf, AV.cells, Vg, Vh, Vi, Vj, AState.set_next, AState.kill_next, Vk, Vl, Vm, Vn, Vo, Vp, Vq, Vr, Vs, Vt, partA, Zf, Zg, Zh, Zi, if_true, if_false, Nat.reduceAdd, Nat.reduceLeDiff, Nat.reduceSub, Zj, Nat.zero_le, Zk, Zl, Zm, Zn, Zo, Zp, Zq, Zr, Zs, Zt, binA, eqA, kEq, nilEq, fillA, putL, allOne, Zu, Zv, AV.one, Zw, Zx, Zy, and_self, and_true, true_and, lenA, firstA, EndOk, resultA, oneOf, Zz, Ya, Yb, Yc, Yd, Ye, reduceCtorEq, Yf, Yg, natOf, upTo, bMax, bHigh, bLow, boundsA, evO, Yh, Yi, againOk, Vu, Vv, Vw, Yj, Yk, eq_self, Yl, Ym, Yn, setPs, or_true, true_or, false_or, or_false, ne_eq, Yo, Vx, Vy, Yp, Yq, i_syntax_Nodes, c16_0, c16_1, c16_2, c16_3, c16_4, c16_5, c16_6, c16_8, c16_9, c16_10, c16_11, c16_12, c16_13, hll]
  refine ⟨_, _, _, _, _, hl, ?_⟩
  generalize hσ3 : (σ.push (.cells [.int .u8 op, .str nm, .slice o1 ar.length c1 z1, .slice o2 l.length c2 z2] true)).set lp (.loop .busy none [j0, j1, j2, .ptr (some (c, 0)), j4, j5, j6, j7, j8, j9, j10, j11, j12, j13, j14, j15, j16] [7] c16_0 c16_7) = σ3
  have hkeep : ∀ i b, i ≠ lp → σ.get i = some b → σ3.get i = some b := fun i b hi e => by
    rw [← hσ3, Vl hi, Vh (hW.lt e)]; exact e
  have hW3 : σ3.Wf := by rw [← hσ3]; exact (hW.push _).set (Vj hll) _
  have hlp3 : σ3.get lp = some (.loop .busy none [j0, j1, j2, .ptr (some (c, 0)), j4, j5, j6, j7, j8, j9, j10, j11, j12, j13, j14, j15, j16] [7] c16_0 c16_7) := by rw [← hσ3, Vk]
  have hnx : σ3.next = σ.next + 1 := by rw [← hσ3]; rfl
  have h53 : σ3.get σ.next = some (.cells [.int .u8 op, .str nm, .slice o1 ar.length c1 z1, .slice o2 l.length c2 z2] true) := by rw [← hσ3, Vl (by omega), Vg]
  have hc3 := hkeep c _ hne hc
  have hnc : σ.next ≠ c := by omega
  simp -implicitDefEqProofs (maxDischargeDepth := 15) only [↓reduceIte, Yr, Ys, Yt, Yu, Yv, Yw, Yx, Yy, Yz, Wa, Wb, Wc, Wd, We, Wf, Wg, Wh, Wi, Wj, Wk, Wl, Wm, Wn, Wo, Wp, Wq, Wr, Ws, Wt, Wu, opA, Wv, Ww, Wx, Wy, Wz, Va, Za, Zb, List.replicate, Zc, Zd, Ze, Vb, Vc, Vd, Ve, Vf, AV.cells, Vg, Vh, Vi, Vj, AState.set_next, AState.kill_next, Vk, Vl, Vm, Vn, Vo, Vp, Vq, Vr, Vs, Vt, partA, Zf, Zg, Zh, Zi, if_true, if_false, Nat.reduceAdd, Nat.reduceLeDiff, Nat.reduceSub, Zj, Nat.zero_le, Zk, Zl, Zm, Zn, Zo, Zp, Zq, Zr, Zs, Zt, binA, eqA, kEq, nilEq, fillA, putL, allOne, Zu, Zv, AV.one, Zw, Zx, Zy, and_self, and_true, true_and, lenA, firstA, EndOk, resultA, oneOf, Zz, Ya, Yb, Yc, Yd, Ye, reduceCtorEq, Yf, Yg, natOf, upTo, bMax, bHigh, bLow, boundsA, evO, Yh, Yi, againOk, Vu, Vv, Vw, Yj, Yk, eq_self, Yl, Ym, Yn, setPs, or_true, true_or, false_or, or_false, ne_eq, Yo, Vx, Vy, Yp, Yq, i_syntax_Nodes, c16_0, c16_1, c16_3, c16_4, c16_5, c16_6, c16_7, c16_8, c16_9, c16_10, c16_11, c16_12, c16_13, hc3, h53, hne, hne', hnc, wrap_add1]
  generalize hσ4 : σ3.set c (.cells [wI (s + 1)] true) = σ4
  have hW4 : σ4.Wf := by rw [← hσ4]; exact hW3.set (hW3.lt hc3) _
  have hn4 : σ4.next = σ3.next := by rw [← hσ4]; rfl
  have hc4 : σ4.get c = some (.cells [wI (s + 1)] true) := by rw [← hσ4, Vk]
  have hk4 : ∀ i b, i ≠ c → σ3.get i = some b → σ4.get i = some b := fun i b hi e => by rw [← hσ4, Vl hi]; exact e
  have h54 := hk4 σ.next _ hnc h53
  try simp -implicitDefEqProofs (maxDischargeDepth := 15) only [↓reduceIte, Yr, Ys, Yt, Yu, Yv, Yw, Yx, Yy, Yz, Wa, Wb, Wc, Wd, We, Wf, Wg, Wh, Wi, Wj, Wk, Wl, Wm, Wn, Wo, Wp, Wq, Wr, Ws, Wt, Wu, opA, Wv, Ww, Wx, Wy, Wz, Va, Za, Zb, List.replicate, Zc, Zd, Ze, Vb, Vc, Vd, Ve, Vf, AV.cells, Vg, Vh, Vi, Vj, AState.set_next, AState.kill_next, Vk, Vl, Vm, Vn, Vo, Vp, Vq, Vr, Vs, Vt, partA, Zf, Zg, Zh, Zi, if_true, if_false, Nat.reduceAdd, Nat.reduceLeDiff, Nat.reduceSub, Zj, Nat.zero_le, Zk, Zl, Zm, Zn, Zo, Zp, Zq, Zr, Zs, Zt, binA, eqA, kEq, nilEq, fillA, putL, allOne, Zu, Zv, AV.one, Zw, Zx, Zy, and_self, and_true, true_and, lenA, firstA, EndOk, resultA, oneOf, Zz, Ya, Yb, Yc, Yd, Ye, reduceCtorEq, Yf, Yg, natOf, upTo, bMax, bHigh, bLow, boundsA, evO, Yh, Yi, againOk, Vu, Vv, Vw, Yj, Yk, eq_self, Yl, Ym, Yn, setPs, or_true, true_or, false_or, or_false, ne_eq, Yo, Vx, Vy, Yp, Yq, i_syntax_Nodes, c16_0, c16_1, c16_3, c16_4, c16_5, c16_6, c16_7, c16_8, c16_9, c16_10, c16_11, c16_12, c16_13, h54]
  refine RunV.to (terms_ok _ _ _ _ _) ?_
  simp -implicitDefEqProofs (maxDischargeDepth := 15) only [↓reduceIte, Yr, Ys, Yt, Yu, Yv, Yw, Yx, Yy, Yz, Wa, Wb, Wc, Wd, We, Wf, Wg, Wh, Wi, Wj, Wk, Wl, Wm, Wn, Wo, Wp, Wq, Wr, Ws, Wt, Wu, opA, Wv, Ww, Wx, Wy, Wz, Va, Za, Zb, List.replicate, Zc, Zd, Ze, Vb, Vc, Vd, Ve, Vf, AV.cells, Vg, Vh, Vi, Vj, AState.set_next, AState.kill_next, Vk, Vl, Vm, Vn, Vo, Vp, Vq, Vr, Vs, Vt, partA, Zf, Zg, Zh, Zi, if_true, if_false, Nat.reduceAdd, Nat.reduceLeDiff, Nat.reduceSub, Zj, Nat.zero_le, Zk, Zl, Zm, Zn, Zo, Zp, Zq, Zr, Zs, Zt, binA, eqA, kEq, nilEq, fillA, putL, allOne, Zu, Zv, AV.one, Zw, Zx, Zy, and_self, and_true, true_and, lenA, firstA, EndOk, resultA, oneOf, Zz, Ya, Yb, Yc, Yd, Ye, reduceCtorEq, Yf, Yg, natOf, upTo, bMax, bHigh, bLow, boundsA, evO, Yh, Yi, againOk, Vu, Vv, Vw, Yj, Yk, eq_self, Yl, Ym, Yn, setPs, or_true, true_or, false_or, or_false, ne_eq, Yo, Vx, Vy, Yp, Yq, i_syntax_Nodes, c16_0, c16_1, c16_3, c16_4, c16_5, c16_6, c16_7, c16_8, c16_9, c16_10, c16_11, c16_12, c16_13]
  have hWp := hW4.push (.cells [.slice o1 ar.length c1 z1] true)
  generalize hσ5 : σ4.push (.cells [.slice o1 ar.length c1 z1] true) = σ5
  rw [hσ5] at hWp
  have h45 : Sub σ4.get σ5.get := by rw [← hσ5]; exact sub_push hW4 _
  have hn5 : σ5.next = σ4.next + 1 := by rw [← hσ5]; rfl
  have hb5 : σ5.get σ4.next = some (.cells [.slice o1 ar.length c1 z1] true) := by rw [← hσ5, Vg]
  have hc5 := h45 _ _ hc4
  have hlp4 := hk4 lp _ hne' hlp3
  have hlp5 := h45 _ _ hlp4
  have hg5 : Sub g σ5.get := fun i b e => h45 i b (hk4 i b (fun q => hfree i b e (.inl q)) (hkeep i b (fun q => hfree i b e (.inr q)) (hg i b e)))
  refine RunV.mono (termsS1_ok (T.cnts ar) ar (Nat.le_refl _) (by omega) Nat _ (fun s _ => s + 1) (NOwn c σ5.next) σ5.next (nIter2 c σ5.next _) (nodesY2_ok (by omega)) (s + 1) _ g σ4.next o1 ar.length c1 z1
    (NSt2.mk (by rw [Vh (by omega)]; exact hc5) Vg) (hg5.trans (sub_push hWp _)) (fun i b e q => by
      rcases q with q | q
      · exact hfree i b e (.inl q)
      · have := hW.lt (hg i b e); omega) hA (by rw [Vh (by omega)]; exact hb5) (by rintro (q | q) <;> omega)) ?_
  rintro u σ6 ⟨⟨hc6, hl6⟩, hK6⟩
  rw [rangeK_ok hl6]
  simp -implicitDefEqProofs (maxDischargeDepth := 15) only [↓reduceIte, Yr, Ys, Yt, Yu, Yv, Yw, Yx, Yy, Yz, Wa, Wb, Wc, Wd, We, Wf, Wg, Wh, Wi, Wj, Wk, Wl, Wm, Wn, Wo, Wp, Wq, Wr, Ws, Wt, Wu, opA, Wv, Ww, Wx, Wy, Wz, Va, Za, Zb, List.replicate, Zc, Zd, Ze, Vb, Vc, Vd, Ve, Vf, AV.cells, Vg, Vh, Vi, Vj, AState.set_next, AState.kill_next, Vk, Vl, Vm, Vn, Vo, Vp, Vq, Vr, Vs, Vt, partA, Zf, Zg, Zh, Zi, if_true, if_false, Nat.reduceAdd, Nat.reduceLeDiff, Nat.reduceSub, Zj, Nat.zero_le, Zk, Zl, Zm, Zn, Zo, Zp, Zq, Zr, Zs, Zt, binA, eqA, kEq, nilEq, fillA, putL, allOne, Zu, Zv, AV.one, Zw, Zx, Zy, and_self, and_true, true_and, lenA, firstA, EndOk, resultA, oneOf, Zz, Ya, Yb, Yc, Yd, Ye, reduceCtorEq, Yf, Yg, natOf, upTo, bMax, bHigh, bLow, boundsA, evO, Yh, Yi, againOk, Vu, Vv, Vw, Yj, Yk, eq_self, Yl, Ym, Yn, setPs, or_true, true_or, false_or, or_false, ne_eq, Yo, Vx, Vy, Yp, Yq, i_syntax_Nodes, c16_0, c16_1, c16_3, c16_4, c16_5, c16_6, c16_7, c16_8, c16_9, c16_10, c16_11, c16_12, c16_13, RoundEnd]
  rw [tfolds_cnt] at hc6
  have hlp6 := hK6.keep lp _ (by rintro (q | q) <;> omega) (by rw [Vh (by omega)]; exact hlp5)
  have hl5 := hW4.lt hlp4
  refine ⟨_, _, _, _, _, by rw [Vm (by omega)]; exact hlp6, ⟨?_, Vk⟩, ?_, ?_, ?_⟩
  · rw [Vl hne, Vm (by omega)]; exact hc6
  · have h1 := hK6.le
    simp only [AState.push_next] at h1
    show σ.next ≤ σ6.next; omega
  · intro i b hi e
    have h1 : i ≠ c := fun q => hi (.inl q)
    have h2 : i ≠ lp := fun q => hi (.inr q)
    have h3 := hW.lt e
    rw [Vl h2, Vm (by omega)]
    refine hK6.keep i b (by rintro (q | q) <;> omega) ?_
    rw [Vh (by omega)]
    exact h45 i b (hk4 i b h1 (hkeep i b h2 e))
  · have h1 := hK6.le
    simp only [AState.push_next] at h1
    exact (hK6.wf.kill _).set (by show lp < σ6.next; omega) _
theorem nodes_ok (f : F) (hf : f.nodes ≤ 1152921504606846976) (σ : AState) (xs : List AV) (hD : DAtL σ.get f.dv xs) : RunF RR Tryz.prog n_syntax_Nodes [.agg xs] σ (fun u σ' => u = .int .i64 f.nodes ∧ σ' = σ) := by
  refine RunV.wf fun hW => RunV.forget rfl ?_
  refine runF_intro hmx rf_syntax_Nodes ?_
  have hl : 4 ≤ xs.length := by rw [hD.length, F.dv_len]; omega
  have ht : xs.take 4 = xs := List.take_of_length_le (by rw [hD.length, F.dv_len]; omega)
  simp -implicitDefEqProofs (maxDischargeDepth := 15) only [↓reduceIte, Yr, Ys, Yt, Yu, Yv, Yw, Yx, Yy, Yz, Wa, Wb, Wc, Wd, We, Wf, Wg, Wh, Wi, Wj, Wk, Wl, Wm, Wn, Wo, Wp, Wq, Wr, Ws, Wt, Wu, opA, Wv, Ww, Wx, Wy, Wz, Va, Za, Zb, List.replicate, Zc, Zd, Ze, Vb, Vc, Vd, Ve, Vf, AV.cells, Vg, Vh, Vi, Vj, AState.set_next, AState.kill_next, Vk, Vl, Vm, Vn, Vo, Vp, Vq, Vr, Vs, Vt, partA, Zf, Zg, Zh, Zi, if_true, if_false, Nat.reduceAdd, Nat.reduceLeDiff, Nat.reduceSub, Zj, Nat.zero_le, Zk, Zl, Zm, Zn, Zo, Zp, Zq, Zr, Zs, Zt, binA, eqA, kEq, nilEq, fillA, putL, allOne, Zu, Zv, AV.one, Zw, Zx, Zy, and_self, and_true, true_and, lenA, firstA, EndOk, resultA, oneOf, Zz, Ya, Yb, Yc, Yd, Ye, reduceCtorEq, Yf, Yg, natOf, upTo, bMax, bHigh, bLow, boundsA, evO, Yh, Yi, againOk, Vu, Vv, Vw, Yj, Yk, eq_self, Yl, Ym, Yn, setPs, or_true, true_or, false_or, or_false, ne_eq, Yo, Vx, Vy, Yp, Yq, i_syntax_Nodes, c16_1, c16_2, c16_3, c16_4, c16_5, c16_6, c16_8, c16_9, c16_10, c16_11, c16_12, c16_13, hl, ht]
  refine RunV.to (all_ok _ _) ?_
  simp -implicitDefEqProofs (maxDischargeDepth := 15) only [↓reduceIte, Yr, Ys, Yt, Yu, Yv, Yw, Yx, Yy, Yz, Wa, Wb, Wc, Wd, We, Wf, Wg, Wh, Wi, Wj, Wk, Wl, Wm, Wn, Wo, Wp, Wq, Wr, Ws, Wt, Wu, opA, Wv, Ww, Wx, Wy, Wz, Va, Za, Zb, List.replicate, Zc, Zd, Ze, Vb, Vc, Vd, Ve, Vf, AV.cells, Vg, Vh, Vi, Vj, AState.set_next, AState.kill_next, Vk, Vl, Vm, Vn, Vo, Vp, Vq, Vr, Vs, Vt, partA, Zf, Zg, Zh, Zi, if_true, if_false, Nat.reduceAdd, Nat.reduceLeDiff, Nat.reduceSub, Zj, Nat.zero_le, Zk, Zl, Zm, Zn, Zo, Zp, Zq, Zr, Zs, Zt, binA, eqA, kEq, nilEq, fillA, putL, allOne, Zu, Zv, AV.one, Zw, Zx, Zy, and_self, and_true, true_and, lenA, firstA, EndOk, resultA, oneOf, Zz, Ya, Yb, Yc, Yd, Ye, reduceCtorEq, Yf, Yg, natOf, upTo, bMax, bHigh, bLow, boundsA, evO, Yh, Yi, againOk, Vu, Vv, Vw, Yj, Yk, eq_self, Yl, Ym, Yn, setPs, or_true, true_or, false_or, or_false, ne_eq, Yo, Vx, Vy, Yp, Yq, i_syntax_Nodes, c16_1, c16_2, c16_3, c16_4, c16_5, c16_6, c16_8, c16_9, c16_10, c16_11, c16_12, c16_13]
  have hW1 := hW.push (.cells xs true)
  have hW2 := hW1.push (.cells [.int .i64 0] true)
  have hW3 := hW2.push (.cells xs true)
  have h01 := sub_push hW (.cells xs true)
  have h12 := sub_push hW1 (.cells [.int .i64 0] true)
  have h23 := sub_push hW2 (.cells xs true)
  refine RunV.mono (allS1_ok (nIter (σ.push (.cells xs true)).next _ _) (nodesY_ok (by simp only [AState.push_next]; omega)) f hf 0 _ σ.get xs _
    (NSt.mk (by rw [Vh (by simp only [AState.push_next]; omega), Vh (by simp only [AState.push_next]; omega), Vg]; rfl) Vg) (h01.trans (h12.trans (h23.trans (sub_push hW3 _)))) (fun i b e q => by
      have := hW.lt e
      simp only [NOwn, AState.push_next] at q; omega) hD (by rw [Vh (by simp only [AState.push_next]; omega), Vg])) ?_
  rintro u σ6 ⟨⟨hc6, hl6⟩, hK6⟩
  rw [rangeK_ok hl6]
  have hne : (σ.push (.cells xs true)).next ≠ (((σ.push (.cells xs true)).push (.cells [.int .i64 0] true)).push (.cells xs true)).next := by simp only [AState.push_next]; omega
  rw [ffold_nodes] at hc6
  have hck : (σ6.kill (((σ.push (.cells xs true)).push (.cells [.int .i64 0] true)).push (.cells xs true)).next).get (σ.push (.cells xs true)).next = some (.cells [wI (0 + f.nodes)] true) := by rw [Vm hne]; exact hc6
  simp -implicitDefEqProofs (maxDischargeDepth := 15) only [↓reduceIte, Yr, Ys, Yt, Yu, Yv, Yw, Yx, Yy, Yz, Wa, Wb, Wc, Wd, We, Wf, Wg, Wh, Wi, Wj, Wk, Wl, Wm, Wn, Wo, Wp, Wq, Wr, Ws, Wt, Wu, opA, Wv, Ww, Wx, Wy, Wz, Va, Za, Zb, List.replicate, Zc, Zd, Ze, Vb, Vc, Vd, Ve, Vf, AV.cells, Vg, Vh, Vi, Vj, AState.set_next, AState.kill_next, Vk, Vl, Vm, Vn, Vo, Vp, Vq, Vr, Vs, Vt, partA, Zf, Zg, Zh, Zi, if_true, if_false, Nat.reduceAdd, Nat.reduceLeDiff, Nat.reduceSub, Zj, Nat.zero_le, Zk, Zl, Zm, Zn, Zo, Zp, Zq, Zr, Zs, Zt, binA, eqA, kEq, nilEq, fillA, putL, allOne, Zu, Zv, AV.one, Zw, Zx, Zy, and_self, and_true, true_and, lenA, firstA, EndOk, resultA, oneOf, Zz, Ya, Yb, Yc, Yd, Ye, reduceCtorEq, Yf, Yg, natOf, upTo, bMax, bHigh, bLow, boundsA, evO, Yh, Yi, againOk, Vu, Vv, Vw, Yj, Yk, eq_self, Yl, Ym, Yn, setPs, or_true, true_or, false_or, or_false, ne_eq, Yo, Vx, Vy, Yp, Yq, i_syntax_Nodes, c16_0, c16_1, c16_2, c16_3, c16_4, c16_5, c16_6, c16_7, c16_8, c16_9, c16_10, c16_11, c16_12, c16_13, hck, hc6, hne]
  refine ⟨by show AV.int .i64 (IntKind.wrap .i64 _) = _; rw [IntKind.wrap_i64]; simp only [AV.int.injEq, true_and]; omega, fun i b e => ?_⟩
  have := hW.lt e
  rw [Vm (by simp only [AState.push_next]; omega)]
  exact hK6.keep i b (by simp only [NOwn, AState.push_next]; omega) ((sub_push hW3 _) i b (h23 i b (h12 i b (h01 i b e))))
end Go.Am
namespace Go.Am
open Go.RowKit Go.Proofs Do
set_option maxRecDepth 100000
abbrev bI (b : UInt8) : AV := .int .u8 b.toNat
theorem u8le {a b : UInt8} : decide ((b.toNat : Int) ≥ a.toNat) = decide (a ≤ b) := by
  rw [decide_eq_decide, UInt8.le_iff_toNat_le]; omega
theorem u8ge {a b : UInt8} : decide ((b.toNat : Int) ≤ a.toNat) = decide (b ≤ a) := by
  rw [decide_eq_decide, UInt8.le_iff_toNat_le]; omega
theorem digit_ok (b : UInt8) (σ : AState) : RunF RR Tryz.prog n_syntax_digit [bI b] σ (fun u σ' => u = .bool (isDigit b) ∧ σ' = σ) := by
  refine runF_intro hmx rf_syntax_digit ?_
  have h1 : decide ((b.toNat : Int) ≥ 48) = decide (48 ≤ b) := u8le (a := 48)
  have h2 : decide ((b.toNat : Int) ≤ 57) = decide (b ≤ 57) := u8ge (a := 57)
  unfold isDigit
  cases h : decide (48 ≤ b)
  · rw [h] at h1; simp -implicitDefEqProofs (maxDischargeDepth := 15) only [↓reduceIte, Yr, Ys, Yt, Yu, Yv, Yw, Yx, Yy, Yz, Wa, Wb, Wc, Wd, We, Wf, Wg, Wh, Wi, Wj, Wk, Wl, Wm, Wn, Wo, Wp, Wq, Wr, Ws, Wt, Wu, opA, Wv, Ww, Wx, Wy, Wz, Va, Za, Zb, List.replicate, Zc, Zd, Ze, Vb, Vc, Vd, Ve, Vf, AV.cells, Vg, Vh, Vi, Vj, AState.set_next, AState.kill_next, Vk, Vl, Vm, Vn, Vo, Vp, Vq, Vr, Vs, Vt, partA, Zf, Zg, Zh, Zi, if_true, if_false, Nat.reduceAdd, Nat.reduceLeDiff, Nat.reduceSub, Zj, Nat.zero_le, Zk, Zl, Zm, Zn, Zo, Zp, Zq, Zr, Zs, Zt, binA, eqA, kEq, nilEq, fillA, putL, allOne, Zu, Zv, AV.one, Zw, Zx, Zy, and_self, and_true, true_and, lenA, firstA, EndOk, resultA, oneOf, Zz, Ya, Yb, Yc, Yd, Ye, reduceCtorEq, Yf, Yg, natOf, upTo, bMax, bHigh, bLow, boundsA, evO, Yh, Yi, againOk, Vu, Vv, Vw, Yj, Yk, eq_self, Yl, Ym, Yn, setPs, or_true, true_or, false_or, or_false, ne_eq, Yo, Vx, Vy, Yp, Yq, i_syntax_digit, c40_0, c40_1, h1, h2, Bool.false_and]
  · rw [h] at h1; simp -implicitDefEqProofs (maxDischargeDepth := 15) only [↓reduceIte, Yr, Ys, Yt, Yu, Yv, Yw, Yx, Yy, Yz, Wa, Wb, Wc, Wd, We, Wf, Wg, Wh, Wi, Wj, Wk, Wl, Wm, Wn, Wo, Wp, Wq, Wr, Ws, Wt, Wu, opA, Wv, Ww, Wx, Wy, Wz, Va, Za, Zb, List.replicate, Zc, Zd, Ze, Vb, Vc, Vd, Ve, Vf, AV.cells, Vg, Vh, Vi, Vj, AState.set_next, AState.kill_next, Vk, Vl, Vm, Vn, Vo, Vp, Vq, Vr, Vs, Vt, partA, Zf, Zg, Zh, Zi, if_true, if_false, Nat.reduceAdd, Nat.reduceLeDiff, Nat.reduceSub, Zj, Nat.zero_le, Zk, Zl, Zm, Zn, Zo, Zp, Zq, Zr, Zs, Zt, binA, eqA, kEq, nilEq, fillA, putL, allOne, Zu, Zv, AV.one, Zw, Zx, Zy, and_self, and_true, true_and, lenA, firstA, EndOk, resultA, oneOf, Zz, Ya, Yb, Yc, Yd, Ye, reduceCtorEq, Yf, Yg, natOf, upTo, bMax, bHigh, bLow, boundsA, evO, Yh, Yi, againOk, Vu, Vv, Vw, Yj, Yk, eq_self, Yl, Ym, Yn, setPs, or_true, true_or, false_or, or_false, ne_eq, Yo, Vx, Vy, Yp, Yq, i_syntax_digit, c40_0, c40_1, h1, h2, Bool.true_and]
theorem capital_ok (b : UInt8) (σ : AState) : RunF RR Tryz.prog n_syntax_capital [bI b] σ (fun u σ' => u = .bool (isCap b) ∧ σ' = σ) := by
  refine runF_intro hmx rf_syntax_capital ?_
  have h1 : decide ((b.toNat : Int) ≥ 65) = decide (65 ≤ b) := u8le (a := 65)
  have h2 : decide ((b.toNat : Int) ≤ 90) = decide (b ≤ 90) := u8ge (a := 90)
  unfold isCap
  cases h : decide (65 ≤ b)
  · rw [h] at h1; simp -implicitDefEqProofs (maxDischargeDepth := 15) only [↓reduceIte, Yr, Ys, Yt, Yu, Yv, Yw, Yx, Yy, Yz, Wa, Wb, Wc, Wd, We, Wf, Wg, Wh, Wi, Wj, Wk, Wl, Wm, Wn, Wo, Wp, Wq, Wr, Ws, Wt, Wu, opA, Wv, Ww, Wx, Wy, Wz, Va, Za, Zb, List.replicate, Zc, Zd, Ze, Vb, Vc, Vd, Ve, Vf, AV.cells, Vg, Vh, Vi, Vj, AState.set_next, AState.kill_next, Vk, Vl, Vm, Vn, Vo, Vp, Vq, Vr, Vs, Vt, partA, Zf, Zg, Zh, Zi, if_true, if_false, Nat.reduceAdd, Nat.reduceLeDiff, Nat.reduceSub, Zj, Nat.zero_le, Zk, Zl, Zm, Zn, Zo, Zp, Zq, Zr, Zs, Zt, binA, eqA, kEq, nilEq, fillA, putL, allOne, Zu, Zv, AV.one, Zw, Zx, Zy, and_self, and_true, true_and, lenA, firstA, EndOk, resultA, oneOf, Zz, Ya, Yb, Yc, Yd, Ye, reduceCtorEq, Yf, Yg, natOf, upTo, bMax, bHigh, bLow, boundsA, evO, Yh, Yi, againOk, Vu, Vv, Vw, Yj, Yk, eq_self, Yl, Ym, Yn, setPs, or_true, true_or, false_or, or_false, ne_eq, Yo, Vx, Vy, Yp, Yq, i_syntax_capital, c8_0, c8_1, h1, h2, Bool.false_and]
  · rw [h] at h1; simp -implicitDefEqProofs (maxDischargeDepth := 15) only [↓reduceIte, Yr, Ys, Yt, Yu, Yv, Yw, Yx, Yy, Yz, Wa, Wb, Wc, Wd, We, Wf, Wg, Wh, Wi, Wj, Wk, Wl, Wm, Wn, Wo, Wp, Wq, Wr, Ws, Wt, Wu, opA, Wv, Ww, Wx, Wy, Wz, Va, Za, Zb, List.replicate, Zc, Zd, Ze, Vb, Vc, Vd, Ve, Vf, AV.cells, Vg, Vh, Vi, Vj, AState.set_next, AState.kill_next, Vk, Vl, Vm, Vn, Vo, Vp, Vq, Vr, Vs, Vt, partA, Zf, Zg, Zh, Zi, if_true, if_false, Nat.reduceAdd, Nat.reduceLeDiff, Nat.reduceSub, Zj, Nat.zero_le, Zk, Zl, Zm, Zn, Zo, Zp, Zq, Zr, Zs, Zt, binA, eqA, kEq, nilEq, fillA, putL, allOne, Zu, Zv, AV.one, Zw, Zx, Zy, and_self, and_true, true_and, lenA, firstA, EndOk, resultA, oneOf, Zz, Ya, Yb, Yc, Yd, Ye, reduceCtorEq, Yf, Yg, natOf, upTo, bMax, bHigh, bLow, boundsA, evO, Yh, Yi, againOk, Vu, Vv, Vw, Yj, Yk, eq_self, Yl, Ym, Yn, setPs, or_true, true_or, false_or, or_false, ne_eq, Yo, Vx, Vy, Yp, Yq, i_syntax_capital, c8_0, c8_1, h1, h2, Bool.true_and]
theorem small_ok (b : UInt8) (σ : AState) : RunF RR Tryz.prog n_syntax_small [bI b] σ (fun u σ' => u = .bool (isSmall b) ∧ σ' = σ) := by
  refine runF_intro hmx rf_syntax_small ?_
  have h1 : decide ((b.toNat : Int) ≥ 97) = decide (97 ≤ b) := u8le (a := 97)
  have h2 : decide ((b.toNat : Int) ≤ 122) = decide (b ≤ 122) := u8ge (a := 122)
  unfold isSmall
  cases h : decide (97 ≤ b)
  · rw [h] at h1; simp -implicitDefEqProofs (maxDischargeDepth := 15) only [↓reduceIte, Yr, Ys, Yt, Yu, Yv, Yw, Yx, Yy, Yz, Wa, Wb, Wc, Wd, We, Wf, Wg, Wh, Wi, Wj, Wk, Wl, Wm, Wn, Wo, Wp, Wq, Wr, Ws, Wt, Wu, opA, Wv, Ww, Wx, Wy, Wz, Va, Za, Zb, List.replicate, Zc, Zd, Ze, Vb, Vc, Vd, Ve, Vf, AV.cells, Vg, Vh, Vi, Vj, AState.set_next, AState.kill_next, Vk, Vl, Vm, Vn, Vo, Vp, Vq, Vr, Vs, Vt, partA, Zf, Zg, Zh, Zi, if_true, if_false, Nat.reduceAdd, Nat.reduceLeDiff, Nat.reduceSub, Zj, Nat.zero_le, Zk, Zl, Zm, Zn, Zo, Zp, Zq, Zr, Zs, Zt, binA, eqA, kEq, nilEq, fillA, putL, allOne, Zu, Zv, AV.one, Zw, Zx, Zy, and_self, and_true, true_and, lenA, firstA, EndOk, resultA, oneOf, Zz, Ya, Yb, Yc, Yd, Ye, reduceCtorEq, Yf, Yg, natOf, upTo, bMax, bHigh, bLow, boundsA, evO, Yh, Yi, againOk, Vu, Vv, Vw, Yj, Yk, eq_self, Yl, Ym, Yn, setPs, or_true, true_or, false_or, or_false, ne_eq, Yo, Vx, Vy, Yp, Yq, i_syntax_small, c22_0, c22_1, h1, h2, Bool.false_and]
  · rw [h] at h1; simp -implicitDefEqProofs (maxDischargeDepth := 15) only [↓reduceIte, Yr, Ys, Yt, Yu, Yv, Yw, Yx, Yy, Yz, Wa, Wb, Wc, Wd, We, Wf, Wg, Wh, Wi, Wj, Wk, Wl, Wm, Wn, Wo, Wp, Wq, Wr, Ws, Wt, Wu, opA, Wv, Ww, Wx, Wy, Wz, Va, Za, Zb, List.replicate, Zc, Zd, Ze, Vb, Vc, Vd, Ve, Vf, AV.cells, Vg, Vh, Vi, Vj, AState.set_next, AState.kill_next, Vk, Vl, Vm, Vn, Vo, Vp, Vq, Vr, Vs, Vt, partA, Zf, Zg, Zh, Zi, if_true, if_false, Nat.reduceAdd, Nat.reduceLeDiff, Nat.reduceSub, Zj, Nat.zero_le, Zk, Zl, Zm, Zn, Zo, Zp, Zq, Zr, Zs, Zt, binA, eqA, kEq, nilEq, fillA, putL, allOne, Zu, Zv, AV.one, Zw, Zx, Zy, and_self, and_true, true_and, lenA, firstA, EndOk, resultA, oneOf, Zz, Ya, Yb, Yc, Yd, Ye, reduceCtorEq, Yf, Yg, natOf, upTo, bMax, bHigh, bLow, boundsA, evO, Yh, Yi, againOk, Vu, Vv, Vw, Yj, Yk, eq_self, Yl, Ym, Yn, setPs, or_true, true_or, false_or, or_false, ne_eq, Yo, Vx, Vy, Yp, Yq, i_syntax_small, c22_0, c22_1, h1, h2, Bool.true_and]
theorem fnS1_ok (b : UInt8) (σ : AState) : RunF RR Tryz.prog n_syntax_FunctionS1 [bI b] σ (fun u σ' => u = .bool (firstFun b) ∧ σ' = σ) := by
  refine runF_intro hmx rf_syntax_FunctionS1 ?_
  have h1 : decide ((b.toNat : Int) ≥ 97) = decide (97 ≤ b) := u8le (a := 97)
  have h2 : decide ((b.toNat : Int) ≤ 116) = decide (b ≤ 116) := u8ge (a := 116)
  unfold firstFun
  cases h : decide (97 ≤ b)
  · rw [h] at h1; simp -implicitDefEqProofs (maxDischargeDepth := 15) only [↓reduceIte, Yr, Ys, Yt, Yu, Yv, Yw, Yx, Yy, Yz, Wa, Wb, Wc, Wd, We, Wf, Wg, Wh, Wi, Wj, Wk, Wl, Wm, Wn, Wo, Wp, Wq, Wr, Ws, Wt, Wu, opA, Wv, Ww, Wx, Wy, Wz, Va, Za, Zb, List.replicate, Zc, Zd, Ze, Vb, Vc, Vd, Ve, Vf, AV.cells, Vg, Vh, Vi, Vj, AState.set_next, AState.kill_next, Vk, Vl, Vm, Vn, Vo, Vp, Vq, Vr, Vs, Vt, partA, Zf, Zg, Zh, Zi, if_true, if_false, Nat.reduceAdd, Nat.reduceLeDiff, Nat.reduceSub, Zj, Nat.zero_le, Zk, Zl, Zm, Zn, Zo, Zp, Zq, Zr, Zs, Zt, binA, eqA, kEq, nilEq, fillA, putL, allOne, Zu, Zv, AV.one, Zw, Zx, Zy, and_self, and_true, true_and, lenA, firstA, EndOk, resultA, oneOf, Zz, Ya, Yb, Yc, Yd, Ye, reduceCtorEq, Yf, Yg, natOf, upTo, bMax, bHigh, bLow, boundsA, evO, Yh, Yi, againOk, Vu, Vv, Vw, Yj, Yk, eq_self, Yl, Ym, Yn, setPs, or_true, true_or, false_or, or_false, ne_eq, Yo, Vx, Vy, Yp, Yq, i_syntax_FunctionS1, c20_0, c20_1, h1, h2, Bool.false_and]
  · rw [h] at h1; simp -implicitDefEqProofs (maxDischargeDepth := 15) only [↓reduceIte, Yr, Ys, Yt, Yu, Yv, Yw, Yx, Yy, Yz, Wa, Wb, Wc, Wd, We, Wf, Wg, Wh, Wi, Wj, Wk, Wl, Wm, Wn, Wo, Wp, Wq, Wr, Ws, Wt, Wu, opA, Wv, Ww, Wx, Wy, Wz, Va, Za, Zb, List.replicate, Zc, Zd, Ze, Vb, Vc, Vd, Ve, Vf, AV.cells, Vg, Vh, Vi, Vj, AState.set_next, AState.kill_next, Vk, Vl, Vm, Vn, Vo, Vp, Vq, Vr, Vs, Vt, partA, Zf, Zg, Zh, Zi, if_true, if_false, Nat.reduceAdd, Nat.reduceLeDiff, Nat.reduceSub, Zj, Nat.zero_le, Zk, Zl, Zm, Zn, Zo, Zp, Zq, Zr, Zs, Zt, binA, eqA, kEq, nilEq, fillA, putL, allOne, Zu, Zv, AV.one, Zw, Zx, Zy, and_self, and_true, true_and, lenA, firstA, EndOk, resultA, oneOf, Zz, Ya, Yb, Yc, Yd, Ye, reduceCtorEq, Yf, Yg, natOf, upTo, bMax, bHigh, bLow, boundsA, evO, Yh, Yi, againOk, Vu, Vv, Vw, Yj, Yk, eq_self, Yl, Ym, Yn, setPs, or_true, true_or, false_or, or_false, ne_eq, Yo, Vx, Vy, Yp, Yq, i_syntax_FunctionS1, c20_0, c20_1, h1, h2, Bool.true_and]
theorem varS1_ok (b : UInt8) (σ : AState) : RunF RR Tryz.prog n_syntax_VariableS1 [bI b] σ (fun u σ' => u = .bool (firstVar b) ∧ σ' = σ) := by
  refine runF_intro hmx rf_syntax_VariableS1 ?_
  have h1 : decide ((b.toNat : Int) ≥ 117) = decide (117 ≤ b) := u8le (a := 117)
  have h2 : decide ((b.toNat : Int) ≤ 122) = decide (b ≤ 122) := u8ge (a := 122)
  unfold firstVar
  cases h : decide (117 ≤ b)
  · rw [h] at h1; simp -implicitDefEqProofs (maxDischargeDepth := 15) only [↓reduceIte, Yr, Ys, Yt, Yu, Yv, Yw, Yx, Yy, Yz, Wa, Wb, Wc, Wd, We, Wf, Wg, Wh, Wi, Wj, Wk, Wl, Wm, Wn, Wo, Wp, Wq, Wr, Ws, Wt, Wu, opA, Wv, Ww, Wx, Wy, Wz, Va, Za, Zb, List.replicate, Zc, Zd, Ze, Vb, Vc, Vd, Ve, Vf, AV.cells, Vg, Vh, Vi, Vj, AState.set_next, AState.kill_next, Vk, Vl, Vm, Vn, Vo, Vp, Vq, Vr, Vs, Vt, partA, Zf, Zg, Zh, Zi, if_true, if_false, Nat.reduceAdd, Nat.reduceLeDiff, Nat.reduceSub, Zj, Nat.zero_le, Zk, Zl, Zm, Zn, Zo, Zp, Zq, Zr, Zs, Zt, binA, eqA, kEq, nilEq, fillA, putL, allOne, Zu, Zv, AV.one, Zw, Zx, Zy, and_self, and_true, true_and, lenA, firstA, EndOk, resultA, oneOf, Zz, Ya, Yb, Yc, Yd, Ye, reduceCtorEq, Yf, Yg, natOf, upTo, bMax, bHigh, bLow, boundsA, evO, Yh, Yi, againOk, Vu, Vv, Vw, Yj, Yk, eq_self, Yl, Ym, Yn, setPs, or_true, true_or, false_or, or_false, ne_eq, Yo, Vx, Vy, Yp, Yq, i_syntax_VariableS1, c37_0, c37_1, h1, h2, Bool.false_and]
  · rw [h] at h1; simp -implicitDefEqProofs (maxDischargeDepth := 15) only [↓reduceIte, Yr, Ys, Yt, Yu, Yv, Yw, Yx, Yy, Yz, Wa, Wb, Wc, Wd, We, Wf, Wg, Wh, Wi, Wj, Wk, Wl, Wm, Wn, Wo, Wp, Wq, Wr, Ws, Wt, Wu, opA, Wv, Ww, Wx, Wy, Wz, Va, Za, Zb, List.replicate, Zc, Zd, Ze, Vb, Vc, Vd, Ve, Vf, AV.cells, Vg, Vh, Vi, Vj, AState.set_next, AState.kill_next, Vk, Vl, Vm, Vn, Vo, Vp, Vq, Vr, Vs, Vt, partA, Zf, Zg, Zh, Zi, if_true, if_false, Nat.reduceAdd, Nat.reduceLeDiff, Nat.reduceSub, Zj, Nat.zero_le, Zk, Zl, Zm, Zn, Zo, Zp, Zq, Zr, Zs, Zt, binA, eqA, kEq, nilEq, fillA, putL, allOne, Zu, Zv, AV.one, Zw, Zx, Zy, and_self, and_true, true_and, lenA, firstA, EndOk, resultA, oneOf, Zz, Ya, Yb, Yc, Yd, Ye, reduceCtorEq, Yf, Yg, natOf, upTo, bMax, bHigh, bLow, boundsA, evO, Yh, Yi, againOk, Vu, Vv, Vw, Yj, Yk, eq_self, Yl, Ym, Yn, setPs, or_true, true_or, false_or, or_false, ne_eq, Yo, Vx, Vy, Yp, Yq, i_syntax_VariableS1, c37_0, c37_1, h1, h2, Bool.true_and]
theorem letter_ok (b : UInt8) (σ : AState) : RunF RR Tryz.prog n_syntax_letter [bI b] σ (fun u σ' => u = .bool (isLetter b) ∧ σ' = σ) := by
  refine runF_intro hmx rf_syntax_letter ?_
  unfold isLetter
  simp -implicitDefEqProofs (maxDischargeDepth := 15) only [↓reduceIte, Yr, Ys, Yt, Yu, Yv, Yw, Yx, Yy, Yz, Wa, Wb, Wc, Wd, We, Wf, Wg, Wh, Wi, Wj, Wk, Wl, Wm, Wn, Wo, Wp, Wq, Wr, Ws, Wt, Wu, opA, Wv, Ww, Wx, Wy, Wz, Va, Za, Zb, List.replicate, Zc, Zd, Ze, Vb, Vc, Vd, Ve, Vf, AV.cells, Vg, Vh, Vi, Vj, AState.set_next, AState.kill_next, Vk, Vl, Vm, Vn, Vo, Vp, Vq, Vr, Vs, Vt, partA, Zf, Zg, Zh, Zi, if_true, if_false, Nat.reduceAdd, Nat.reduceLeDiff, Nat.reduceSub, Zj, Nat.zero_le, Zk, Zl, Zm, Zn, Zo, Zp, Zq, Zr, Zs, Zt, binA, eqA, kEq, nilEq, fillA, putL, allOne, Zu, Zv, AV.one, Zw, Zx, Zy, and_self, and_true, true_and, lenA, firstA, EndOk, resultA, oneOf, Zz, Ya, Yb, Yc, Yd, Ye, reduceCtorEq, Yf, Yg, natOf, upTo, bMax, bHigh, bLow, boundsA, evO, Yh, Yi, againOk, Vu, Vv, Vw, Yj, Yk, eq_self, Yl, Ym, Yn, setPs, or_true, true_or, false_or, or_false, ne_eq, Yo, Vx, Vy, Yp, Yq, i_syntax_letter, c6_0, c6_1, c6_2, c6_3, c6_4]
  refine RunV.to (small_ok b _) ?_
  cases h : isSmall b
  · simp -implicitDefEqProofs (maxDischargeDepth := 15) only [↓reduceIte, Yr, Ys, Yt, Yu, Yv, Yw, Yx, Yy, Yz, Wa, Wb, Wc, Wd, We, Wf, Wg, Wh, Wi, Wj, Wk, Wl, Wm, Wn, Wo, Wp, Wq, Wr, Ws, Wt, Wu, opA, Wv, Ww, Wx, Wy, Wz, Va, Za, Zb, List.replicate, Zc, Zd, Ze, Vb, Vc, Vd, Ve, Vf, AV.cells, Vg, Vh, Vi, Vj, AState.set_next, AState.kill_next, Vk, Vl, Vm, Vn, Vo, Vp, Vq, Vr, Vs, Vt, partA, Zf, Zg, Zh, Zi, if_true, if_false, Nat.reduceAdd, Nat.reduceLeDiff, Nat.reduceSub, Zj, Nat.zero_le, Zk, Zl, Zm, Zn, Zo, Zp, Zq, Zr, Zs, Zt, binA, eqA, kEq, nilEq, fillA, putL, allOne, Zu, Zv, AV.one, Zw, Zx, Zy, and_self, and_true, true_and, lenA, firstA, EndOk, resultA, oneOf, Zz, Ya, Yb, Yc, Yd, Ye, reduceCtorEq, Yf, Yg, natOf, upTo, bMax, bHigh, bLow, boundsA, evO, Yh, Yi, againOk, Vu, Vv, Vw, Yj, Yk, eq_self, Yl, Ym, Yn, setPs, or_true, true_or, false_or, or_false, ne_eq, Yo, Vx, Vy, Yp, Yq, i_syntax_letter, c6_0, c6_1, c6_2, c6_3, c6_4, Bool.false_or]
    refine RunV.to (capital_ok b _) ?_
    cases h : isCap b
    · simp -implicitDefEqProofs (maxDischargeDepth := 15) only [↓reduceIte, Yr, Ys, Yt, Yu, Yv, Yw, Yx, Yy, Yz, Wa, Wb, Wc, Wd, We, Wf, Wg, Wh, Wi, Wj, Wk, Wl, Wm, Wn, Wo, Wp, Wq, Wr, Ws, Wt, Wu, opA, Wv, Ww, Wx, Wy, Wz, Va, Za, Zb, List.replicate, Zc, Zd, Ze, Vb, Vc, Vd, Ve, Vf, AV.cells, Vg, Vh, Vi, Vj, AState.set_next, AState.kill_next, Vk, Vl, Vm, Vn, Vo, Vp, Vq, Vr, Vs, Vt, partA, Zf, Zg, Zh, Zi, if_true, if_false, Nat.reduceAdd, Nat.reduceLeDiff, Nat.reduceSub, Zj, Nat.zero_le, Zk, Zl, Zm, Zn, Zo, Zp, Zq, Zr, Zs, Zt, binA, eqA, kEq, nilEq, fillA, putL, allOne, Zu, Zv, AV.one, Zw, Zx, Zy, and_self, and_true, true_and, lenA, firstA, EndOk, resultA, oneOf, Zz, Ya, Yb, Yc, Yd, Ye, reduceCtorEq, Yf, Yg, natOf, upTo, bMax, bHigh, bLow, boundsA, evO, Yh, Yi, againOk, Vu, Vv, Vw, Yj, Yk, eq_self, Yl, Ym, Yn, setPs, or_true, true_or, false_or, or_false, ne_eq, Yo, Vx, Vy, Yp, Yq, i_syntax_letter, c6_0, c6_1, c6_2, c6_3, c6_4, Bool.false_or]
      refine RunV.to (digit_ok b _) ?_
      simp -implicitDefEqProofs (maxDischargeDepth := 15) only [↓reduceIte, Yr, Ys, Yt, Yu, Yv, Yw, Yx, Yy, Yz, Wa, Wb, Wc, Wd, We, Wf, Wg, Wh, Wi, Wj, Wk, Wl, Wm, Wn, Wo, Wp, Wq, Wr, Ws, Wt, Wu, opA, Wv, Ww, Wx, Wy, Wz, Va, Za, Zb, List.replicate, Zc, Zd, Ze, Vb, Vc, Vd, Ve, Vf, AV.cells, Vg, Vh, Vi, Vj, AState.set_next, AState.kill_next, Vk, Vl, Vm, Vn, Vo, Vp, Vq, Vr, Vs, Vt, partA, Zf, Zg, Zh, Zi, if_true, if_false, Nat.reduceAdd, Nat.reduceLeDiff, Nat.reduceSub, Zj, Nat.zero_le, Zk, Zl, Zm, Zn, Zo, Zp, Zq, Zr, Zs, Zt, binA, eqA, kEq, nilEq, fillA, putL, allOne, Zu, Zv, AV.one, Zw, Zx, Zy, and_self, and_true, true_and, lenA, firstA, EndOk, resultA, oneOf, Zz, Ya, Yb, Yc, Yd, Ye, reduceCtorEq, Yf, Yg, natOf, upTo, bMax, bHigh, bLow, boundsA, evO, Yh, Yi, againOk, Vu, Vv, Vw, Yj, Yk, eq_self, Yl, Ym, Yn, setPs, or_true, true_or, false_or, or_false, ne_eq, Yo, Vx, Vy, Yp, Yq, i_syntax_letter, c6_0, c6_1, c6_2, c6_3, c6_4, Bool.false_or]
    · simp -implicitDefEqProofs (maxDischargeDepth := 15) only [↓reduceIte, Yr, Ys, Yt, Yu, Yv, Yw, Yx, Yy, Yz, Wa, Wb, Wc, Wd, We, Wf, Wg, Wh, Wi, Wj, Wk, Wl, Wm, Wn, Wo, Wp, Wq, Wr, Ws, Wt, Wu, opA, Wv, Ww, Wx, Wy, Wz, Va, Za, Zb, List.replicate, Zc, Zd, Ze, Vb, Vc, Vd, Ve, Vf, AV.cells, Vg, Vh, Vi, Vj, AState.set_next, AState.kill_next, Vk, Vl, Vm, Vn, Vo, Vp, Vq, Vr, Vs, Vt, partA, Zf, Zg, Zh, Zi, if_true, if_false, Nat.reduceAdd, Nat.reduceLeDiff, Nat.reduceSub, Zj, Nat.zero_le, Zk, Zl, Zm, Zn, Zo, Zp, Zq, Zr, Zs, Zt, binA, eqA, kEq, nilEq, fillA, putL, allOne, Zu, Zv, AV.one, Zw, Zx, Zy, and_self, and_true, true_and, lenA, firstA, EndOk, resultA, oneOf, Zz, Ya, Yb, Yc, Yd, Ye, reduceCtorEq, Yf, Yg, natOf, upTo, bMax, bHigh, bLow, boundsA, evO, Yh, Yi, againOk, Vu, Vv, Vw, Yj, Yk, eq_self, Yl, Ym, Yn, setPs, or_true, true_or, false_or, or_false, ne_eq, Yo, Vx, Vy, Yp, Yq, i_syntax_letter, c6_0, c6_1, c6_2, c6_3, c6_4, Bool.false_or, Bool.true_or]
  · simp -implicitDefEqProofs (maxDischargeDepth := 15) only [↓reduceIte, Yr, Ys, Yt, Yu, Yv, Yw, Yx, Yy, Yz, Wa, Wb, Wc, Wd, We, Wf, Wg, Wh, Wi, Wj, Wk, Wl, Wm, Wn, Wo, Wp, Wq, Wr, Ws, Wt, Wu, opA, Wv, Ww, Wx, Wy, Wz, Va, Za, Zb, List.replicate, Zc, Zd, Ze, Vb, Vc, Vd, Ve, Vf, AV.cells, Vg, Vh, Vi, Vj, AState.set_next, AState.kill_next, Vk, Vl, Vm, Vn, Vo, Vp, Vq, Vr, Vs, Vt, partA, Zf, Zg, Zh, Zi, if_true, if_false, Nat.reduceAdd, Nat.reduceLeDiff, Nat.reduceSub, Zj, Nat.zero_le, Zk, Zl, Zm, Zn, Zo, Zp, Zq, Zr, Zs, Zt, binA, eqA, kEq, nilEq, fillA, putL, allOne, Zu, Zv, AV.one, Zw, Zx, Zy, and_self, and_true, true_and, lenA, firstA, EndOk, resultA, oneOf, Zz, Ya, Yb, Yc, Yd, Ye, reduceCtorEq, Yf, Yg, natOf, upTo, bMax, bHigh, bLow, boundsA, evO, Yh, Yi, againOk, Vu, Vv, Vw, Yj, Yk, eq_self, Yl, Ym, Yn, setPs, or_true, true_or, false_or, or_false, ne_eq, Yo, Vx, Vy, Yp, Yq, i_syntax_letter, c6_0, c6_1, c6_2, c6_3, c6_4, Bool.false_or, Bool.true_or]
theorem index_strs_ok {σ : AState} {o : Option (Nat × Nat)} {n : Nat} {c : Option Nat} {z : Nat} {ss : List Str} (h : Strs σ.get o n z ss) (hb : n ≤ 4611686018427387904) (s : Str) :
    RunF RR Tryz.prog n_slices_Contains_string [.slice o n c z, .str s] σ (fun u σ' => u = .bool (ss.contains s) ∧ σ' = σ) := by
  refine runF_intro hmx rf_slices_Contains_string ?_
  have hlen := h.len
  simp -implicitDefEqProofs (maxDischargeDepth := 15) only [↓reduceIte, Yr, Ys, Yt, Yu, Yv, Yw, Yx, Yy, Yz, Wa, Wb, Wc, Wd, We, Wf, Wg, Wh, Wi, Wj, Wk, Wl, Wm, Wn, Wo, Wp, Wq, Wr, Ws, Wt, Wu, opA, Wv, Ww, Wx, Wy, Wz, Va, Za, Zb, List.replicate, Zc, Zd, Ze, Vb, Vc, Vd, Ve, Vf, AV.cells, Vg, Vh, Vi, Vj, AState.set_next, AState.kill_next, Vk, Vl, Vm, Vn, Vo, Vp, Vq, Vr, Vs, Vt, partA, Zf, Zg, Zh, Zi, if_true, if_false, Nat.reduceAdd, Nat.reduceLeDiff, Nat.reduceSub, Zj, Nat.zero_le, Zk, Zl, Zm, Zn, Zo, Zp, Zq, Zr, Zs, Zt, binA, eqA, kEq, nilEq, fillA, putL, allOne, Zu, Zv, AV.one, Zw, Zx, Zy, and_self, and_true, true_and, lenA, firstA, EndOk, resultA, oneOf, Zz, Ya, Yb, Yc, Yd, Ye, reduceCtorEq, Yf, Yg, natOf, upTo, bMax, bHigh, bLow, boundsA, evO, Yh, Yi, againOk, Vu, Vv, Vw, Yj, Yk, eq_self, Yl, Ym, Yn, setPs, or_true, true_or, false_or, or_false, ne_eq, Yo, Vx, Vy, Yp, Yq, i_slices_Contains_string, c57_0, c57_1, c57_2]
  have key : RunF RR Tryz.prog n_slices_Index_string [.slice o n c z, .str s] σ (fun u σ' => u = .int .i64 (ixInt (fun x => s == x) ss) ∧ σ' = σ) := by
    refine runF_intro hmx rf_slices_Index_string ?_
    simp -implicitDefEqProofs (maxDischargeDepth := 15) only [↓reduceIte, Yr, Ys, Yt, Yu, Yv, Yw, Yx, Yy, Yz, Wa, Wb, Wc, Wd, We, Wf, Wg, Wh, Wi, Wj, Wk, Wl, Wm, Wn, Wo, Wp, Wq, Wr, Ws, Wt, Wu, opA, Wv, Ww, Wx, Wy, Wz, Va, Za, Zb, List.replicate, Zc, Zd, Ze, Vb, Vc, Vd, Ve, Vf, AV.cells, Vg, Vh, Vi, Vj, AState.set_next, AState.kill_next, Vk, Vl, Vm, Vn, Vo, Vp, Vq, Vr, Vs, Vt, partA, Zf, Zg, Zh, Zi, if_true, if_false, Nat.reduceAdd, Nat.reduceLeDiff, Nat.reduceSub, Zj, Nat.zero_le, Zk, Zl, Zm, Zn, Zo, Zp, Zq, Zr, Zs, Zt, binA, eqA, kEq, nilEq, fillA, putL, allOne, Zu, Zv, AV.one, Zw, Zx, Zy, and_self, and_true, true_and, lenA, firstA, EndOk, resultA, oneOf, Zz, Ya, Yb, Yc, Yd, Ye, reduceCtorEq, Yf, Yg, natOf, upTo, bMax, bHigh, bLow, boundsA, evO, Yh, Yi, againOk, Vu, Vv, Vw, Yj, Yk, eq_self, Yl, Ym, Yn, setPs, or_true, true_or, false_or, or_false, ne_eq, Yo, Vx, Vy, Yp, Yq, i_slices_Index_string, c34_0, c34_1, c34_2, c34_3, c34_4, c34_5, c34_6, c34_7, c34_8, c34_9, c34_10, c34_11, c34_12]
    refine wp_loop (fun ts σ' m => ∃ k : Nat, σ' = σ ∧ k + m = n ∧ (∀ i x, i < k → ss[i]? = some x → (s == x) = false) ∧ ∃ j2 j3 j5 j9 j10 j11 j12 j13 j14 j15 j16 j17 j18 : AV, ts = [.slice o n c z, .str s, j2, j3, .int .i64 0, j5, .slice o n c z, .int .i64 n, .int .i64 k, j9, j10, j11, j12, j13, j14, j15, j16, j17, j18]) n ⟨0, rfl, by omega, fun i x hi => by omega, _, _, _, _, _, _, _, _, _, _, _, _, _, rfl⟩ ?_
    rintro m ts σ' ⟨k, rfl, hk, hq, j2, j3, j5, j9, j10, j11, j12, j13, j14, j15, j16, j17, j18, rfl⟩
    by_cases hlt : k < n
    · obtain ⟨x, hx⟩ : ∃ x, ss[k]? = some x := ⟨ss[k]'(by omega), List.getElem?_eq_getElem _⟩
      obtain ⟨rfl, i, off, l, w, rfl, hg, hp⟩ := h.elem hx
      have hd : decide ((k : Int) < n) = true := decide_eq_true (by omega)
      have e1 : (0 : Int) ≤ (k : Int) ∧ (k : Int) < (n : Int) := by omega
      cases hqx : (s == x)
      · simp -implicitDefEqProofs (maxDischargeDepth := 15) only [↓reduceIte, Yr, Ys, Yt, Yu, Yv, Yw, Yx, Yy, Yz, Wa, Wb, Wc, Wd, We, Wf, Wg, Wh, Wi, Wj, Wk, Wl, Wm, Wn, Wo, Wp, Wq, Wr, Ws, Wt, Wu, opA, Wv, Ww, Wx, Wy, Wz, Va, Za, Zb, List.replicate, Zc, Zd, Ze, Vb, Vc, Vd, Ve, Vf, AV.cells, Vg, Vh, Vi, Vj, AState.set_next, AState.kill_next, Vk, Vl, Vm, Vn, Vo, Vp, Vq, Vr, Vs, Vt, partA, Zf, Zg, Zh, Zi, if_true, if_false, Nat.reduceAdd, Nat.reduceLeDiff, Nat.reduceSub, Zj, Nat.zero_le, Zk, Zl, Zm, Zn, Zo, Zp, Zq, Zr, Zs, Zt, binA, eqA, kEq, nilEq, fillA, putL, allOne, Zu, Zv, AV.one, Zw, Zx, Zy, and_self, and_true, true_and, lenA, firstA, EndOk, resultA, oneOf, Zz, Ya, Yb, Yc, Yd, Ye, reduceCtorEq, Yf, Yg, natOf, upTo, bMax, bHigh, bLow, boundsA, evO, Yh, Yi, againOk, Vu, Vv, Vw, Yj, Yk, eq_self, Yl, Ym, Yn, setPs, or_true, true_or, false_or, or_false, ne_eq, Yo, Vx, Vy, Yp, Yq, i_slices_Index_string, c34_0, c34_1, c34_2, c34_3, c34_4, c34_5, c34_6, c34_7, c34_8, c34_9, c34_10, c34_11, c34_12, hd, e1, hg, hp, hqx, Nat.mul_one]
        refine ⟨m - 1, by omega, k + 1, by omega, fun i y hi hy => ?_, ?_⟩
        · by_cases e : i = k
          · subst e; rw [hx] at hy; cases hy; exact hqx
          · exact hq i y (by omega) hy
        · rw [wrap_i64 (by omega)]
          exact ⟨_, _, _, _, _, _, _, _, _, _, _, _, _, rfl⟩
      · simp -implicitDefEqProofs (maxDischargeDepth := 15) only [↓reduceIte, Yr, Ys, Yt, Yu, Yv, Yw, Yx, Yy, Yz, Wa, Wb, Wc, Wd, We, Wf, Wg, Wh, Wi, Wj, Wk, Wl, Wm, Wn, Wo, Wp, Wq, Wr, Ws, Wt, Wu, opA, Wv, Ww, Wx, Wy, Wz, Va, Za, Zb, List.replicate, Zc, Zd, Ze, Vb, Vc, Vd, Ve, Vf, AV.cells, Vg, Vh, Vi, Vj, AState.set_next, AState.kill_next, Vk, Vl, Vm, Vn, Vo, Vp, Vq, Vr, Vs, Vt, partA, Zf, Zg, Zh, Zi, if_true, if_false, Nat.reduceAdd, Nat.reduceLeDiff, Nat.reduceSub, Zj, Nat.zero_le, Zk, Zl, Zm, Zn, Zo, Zp, Zq, Zr, Zs, Zt, binA, eqA, kEq, nilEq, fillA, putL, allOne, Zu, Zv, AV.one, Zw, Zx, Zy, and_self, and_true, true_and, lenA, firstA, EndOk, resultA, oneOf, Zz, Ya, Yb, Yc, Yd, Ye, reduceCtorEq, Yf, Yg, natOf, upTo, bMax, bHigh, bLow, boundsA, evO, Yh, Yi, againOk, Vu, Vv, Vw, Yj, Yk, eq_self, Yl, Ym, Yn, setPs, or_true, true_or, false_or, or_false, ne_eq, Yo, Vx, Vy, Yp, Yq, i_slices_Index_string, c34_0, c34_1, c34_2, c34_3, c34_4, c34_5, c34_6, c34_7, c34_8, c34_9, c34_10, c34_11, c34_12, hd, e1, hg, hp, hqx, Nat.mul_one]
        have : ss.findIdx? (fun x => s == x) = some k := by
          rw [List.findIdx?_eq_some_iff_getElem]
          refine ⟨by omega, ?_, fun j hj => ?_⟩
          · rw [List.getElem?_eq_getElem (by omega)] at hx; cases hx; exact hqx
          · simpa using hq j _ hj (List.getElem?_eq_getElem (by omega))
        simp [ixInt, this]
    · have hd : decide ((k : Int) < n) = false := decide_eq_false (by omega)
      simp -implicitDefEqProofs (maxDischargeDepth := 15) only [↓reduceIte, Yr, Ys, Yt, Yu, Yv, Yw, Yx, Yy, Yz, Wa, Wb, Wc, Wd, We, Wf, Wg, Wh, Wi, Wj, Wk, Wl, Wm, Wn, Wo, Wp, Wq, Wr, Ws, Wt, Wu, opA, Wv, Ww, Wx, Wy, Wz, Va, Za, Zb, List.replicate, Zc, Zd, Ze, Vb, Vc, Vd, Ve, Vf, AV.cells, Vg, Vh, Vi, Vj, AState.set_next, AState.kill_next, Vk, Vl, Vm, Vn, Vo, Vp, Vq, Vr, Vs, Vt, partA, Zf, Zg, Zh, Zi, if_true, if_false, Nat.reduceAdd, Nat.reduceLeDiff, Nat.reduceSub, Zj, Nat.zero_le, Zk, Zl, Zm, Zn, Zo, Zp, Zq, Zr, Zs, Zt, binA, eqA, kEq, nilEq, fillA, putL, allOne, Zu, Zv, AV.one, Zw, Zx, Zy, and_self, and_true, true_and, lenA, firstA, EndOk, resultA, oneOf, Zz, Ya, Yb, Yc, Yd, Ye, reduceCtorEq, Yf, Yg, natOf, upTo, bMax, bHigh, bLow, boundsA, evO, Yh, Yi, againOk, Vu, Vv, Vw, Yj, Yk, eq_self, Yl, Ym, Yn, setPs, or_true, true_or, false_or, or_false, ne_eq, Yo, Vx, Vy, Yp, Yq, i_slices_Index_string, c34_0, c34_1, c34_2, c34_3, c34_4, c34_5, c34_6, c34_7, c34_8, c34_9, c34_10, c34_11, c34_12, hd]
      have : ss.findIdx? (fun x => s == x) = none := by
        rw [List.findIdx?_eq_none_iff]
        intro x hx
        obtain ⟨j, hj, rfl⟩ := List.getElem_of_mem hx
        exact hq j _ (by omega) (List.getElem?_eq_getElem hj)
      simp [ixInt, this]
  refine RunV.to key ?_
  simp -implicitDefEqProofs (maxDischargeDepth := 15) only [↓reduceIte, Yr, Ys, Yt, Yu, Yv, Yw, Yx, Yy, Yz, Wa, Wb, Wc, Wd, We, Wf, Wg, Wh, Wi, Wj, Wk, Wl, Wm, Wn, Wo, Wp, Wq, Wr, Ws, Wt, Wu, opA, Wv, Ww, Wx, Wy, Wz, Va, Za, Zb, List.replicate, Zc, Zd, Ze, Vb, Vc, Vd, Ve, Vf, AV.cells, Vg, Vh, Vi, Vj, AState.set_next, AState.kill_next, Vk, Vl, Vm, Vn, Vo, Vp, Vq, Vr, Vs, Vt, partA, Zf, Zg, Zh, Zi, if_true, if_false, Nat.reduceAdd, Nat.reduceLeDiff, Nat.reduceSub, Zj, Nat.zero_le, Zk, Zl, Zm, Zn, Zo, Zp, Zq, Zr, Zs, Zt, binA, eqA, kEq, nilEq, fillA, putL, allOne, Zu, Zv, AV.one, Zw, Zx, Zy, and_self, and_true, true_and, lenA, firstA, EndOk, resultA, oneOf, Zz, Ya, Yb, Yc, Yd, Ye, reduceCtorEq, Yf, Yg, natOf, upTo, bMax, bHigh, bLow, boundsA, evO, Yh, Yi, againOk, Vu, Vv, Vw, Yj, Yk, eq_self, Yl, Ym, Yn, setPs, or_true, true_or, false_or, or_false, ne_eq, Yo, Vx, Vy, Yp, Yq, i_slices_Contains_string, c57_0, c57_1, c57_2, ixInt_ge]
  rw [List.contains_eq_any_beq]
end Go.Am
namespace Go.Am
open Go.RowKit Go.Proofs Do
set_option maxRecDepth 100000
def FnB (n : Nat) (q : UInt8 → Bool) : Prop := ∀ (b : UInt8) (σ : AState), RunF RR Tryz.prog n [bI b] σ (fun u σ' => u = .bool (q b) ∧ σ' = σ)
def FnS (n : Nat) (q : Str → Bool) : Prop := ∀ (s : Str) (σ : AState), RunF RR Tryz.prog n [.str s] σ (fun u σ' => u = .bool (q s) ∧ σ' = σ)
theorem bytes_elem {s : Str} {k : Nat} {x : UInt8} (h : s[k]? = some x) : (bytesOf s)[k]? = some (bI x) := by
  simp [bytesOf, h]
theorem bytes_len (s : Str) : (bytesOf s).length = s.length := by simp [bytesOf]
theorem nameS1_ok {n : Nat} {q : UInt8 → Bool} (h : FnB n q) (b : UInt8) (σ : AState) (p : Nat) (hp : σ.get p = some (.cells [.func (.func n) [] []] true)) :
    RunV RR Tryz.prog (.func (.func n_syntax_nameS1) [] [.ptr (some (p, 0))]) [bI b] σ (fun u σ' => u = .bool (!q b) ∧ σ' = σ) := by
  refine runF_intro hmx rf_syntax_nameS1 ?_
  simp -implicitDefEqProofs (maxDischargeDepth := 15) only [↓reduceIte, Yr, Ys, Yt, Yu, Yv, Yw, Yx, Yy, Yz, Wa, Wb, Wc, Wd, We, Wf, Wg, Wh, Wi, Wj, Wk, Wl, Wm, Wn, Wo, Wp, Wq, Wr, Ws, Wt, Wu, opA, Wv, Ww, Wx, Wy, Wz, Va, Za, Zb, List.replicate, Zc, Zd, Ze, Vb, Vc, Vd, Ve, Vf, AV.cells, Vg, Vh, Vi, Vj, AState.set_next, AState.kill_next, Vk, Vl, Vm, Vn, Vo, Vp, Vq, Vr, Vs, Vt, partA, Zf, Zg, Zh, Zi, if_true, if_false, Nat.reduceAdd, Nat.reduceLeDiff, Nat.reduceSub, Zj, Nat.zero_le, Zk, Zl, Zm, Zn, Zo, Zp, Zq, Zr, Zs, Zt, binA, eqA, kEq, nilEq, fillA, putL, allOne, Zu, Zv, AV.one, Zw, Zx, Zy, and_self, and_true, true_and, lenA, firstA, EndOk, resultA, oneOf, Zz, Ya, Yb, Yc, Yd, Ye, reduceCtorEq, Yf, Yg, natOf, upTo, bMax, bHigh, bLow, boundsA, evO, Yh, Yi, againOk, Vu, Vv, Vw, Yj, Yk, eq_self, Yl, Ym, Yn, setPs, or_true, true_or, false_or, or_false, ne_eq, Yo, Vx, Vy, Yp, Yq, i_syntax_nameS1, c25_0, c25_1, c25_2, hp]
  refine RunV.to (h b σ) ?_
  simp -implicitDefEqProofs (maxDischargeDepth := 15) only [↓reduceIte, Yr, Ys, Yt, Yu, Yv, Yw, Yx, Yy, Yz, Wa, Wb, Wc, Wd, We, Wf, Wg, Wh, Wi, Wj, Wk, Wl, Wm, Wn, Wo, Wp, Wq, Wr, Ws, Wt, Wu, opA, Wv, Ww, Wx, Wy, Wz, Va, Za, Zb, List.replicate, Zc, Zd, Ze, Vb, Vc, Vd, Ve, Vf, AV.cells, Vg, Vh, Vi, Vj, AState.set_next, AState.kill_next, Vk, Vl, Vm, Vn, Vo, Vp, Vq, Vr, Vs, Vt, partA, Zf, Zg, Zh, Zi, if_true, if_false, Nat.reduceAdd, Nat.reduceLeDiff, Nat.reduceSub, Zj, Nat.zero_le, Zk, Zl, Zm, Zn, Zo, Zp, Zq, Zr, Zs, Zt, binA, eqA, kEq, nilEq, fillA, putL, allOne, Zu, Zv, AV.one, Zw, Zx, Zy, and_self, and_true, true_and, lenA, firstA, EndOk, resultA, oneOf, Zz, Ya, Yb, Yc, Yd, Ye, reduceCtorEq, Yf, Yg, natOf, upTo, bMax, bHigh, bLow, boundsA, evO, Yh, Yi, againOk, Vu, Vv, Vw, Yj, Yk, eq_self, Yl, Ym, Yn, setPs, or_true, true_or, false_or, or_false, ne_eq, Yo, Vx, Vy, Yp, Yq, i_syntax_nameS1, c25_0, c25_1, c25_2]
theorem nameB_cons (first rest : UInt8 → Bool) (c : UInt8) (r : Str) : nameB first rest (c :: r) = (decide ((c :: r).length ≤ 16) && first c && !barred.contains (c :: r) && r.all rest) := rfl
theorem name_ok {n1 n2 : Nat} {q1 q2 : UInt8 → Bool} (h1 : FnB n1 q1) (h2 : FnB n2 q2) (s : Str) (hb : s.length ≤ 4611686018427387904) (σ : AState) :
    RunF RR Tryz.prog n_syntax_name [.str s, .func (.func n1) [] [], .func (.func n2) [] []] σ (fun u σ' => u = .bool (nameB q1 q2 s) ∧ σ' = σ) := by
  refine RunV.wf fun hW => RunV.forget rfl ?_
  refine runF_intro hmx rf_syntax_name ?_
  have hE := sub_push hW (.cells [.func (.func n2) [] []] true)
  cases s with
  | nil =>
    simp -implicitDefEqProofs (maxDischargeDepth := 15) only [↓reduceIte, Yr, Ys, Yt, Yu, Yv, Yw, Yx, Yy, Yz, Wa, Wb, Wc, Wd, We, Wf, Wg, Wh, Wi, Wj, Wk, Wl, Wm, Wn, Wo, Wp, Wq, Wr, Ws, Wt, Wu, opA, Wv, Ww, Wx, Wy, Wz, Va, Za, Zb, List.replicate, Zc, Zd, Ze, Vb, Vc, Vd, Ve, Vf, AV.cells, Vg, Vh, Vi, Vj, AState.set_next, AState.kill_next, Vk, Vl, Vm, Vn, Vo, Vp, Vq, Vr, Vs, Vt, partA, Zf, Zg, Zh, Zi, if_true, if_false, Nat.reduceAdd, Nat.reduceLeDiff, Nat.reduceSub, Zj, Nat.zero_le, Zk, Zl, Zm, Zn, Zo, Zp, Zq, Zr, Zs, Zt, binA, eqA, kEq, nilEq, fillA, putL, allOne, Zu, Zv, AV.one, Zw, Zx, Zy, and_self, and_true, true_and, lenA, firstA, EndOk, resultA, oneOf, Zz, Ya, Yb, Yc, Yd, Ye, reduceCtorEq, Yf, Yg, natOf, upTo, bMax, bHigh, bLow, boundsA, evO, Yh, Yi, againOk, Vu, Vv, Vw, Yj, Yk, eq_self, Yl, Ym, Yn, setPs, or_true, true_or, false_or, or_false, ne_eq, Yo, Vx, Vy, Yp, Yq, i_syntax_name, c3_0, c3_1, c3_2, c3_3, c3_4, c3_5, c3_6, c3_7, Int.ofNat_zero, Int.natCast_zero, show decide ((0:Int) < 1) = true from rfl]
    exact ⟨rfl, hE⟩
  | cons c r =>
    have e1 : decide (((c :: r).length : Int) < 1) = false := decide_eq_false (by simp only [List.length_cons]; omega)
    simp only [List.length_cons] at e1
    rw [nameB_cons]
    simp -implicitDefEqProofs (maxDischargeDepth := 15) only [↓reduceIte, Yr, Ys, Yt, Yu, Yv, Yw, Yx, Yy, Yz, Wa, Wb, Wc, Wd, We, Wf, Wg, Wh, Wi, Wj, Wk, Wl, Wm, Wn, Wo, Wp, Wq, Wr, Ws, Wt, Wu, opA, Wv, Ww, Wx, Wy, Wz, Va, Za, Zb, List.replicate, Zc, Zd, Ze, Vb, Vc, Vd, Ve, Vf, AV.cells, Vg, Vh, Vi, Vj, AState.set_next, AState.kill_next, Vk, Vl, Vm, Vn, Vo, Vp, Vq, Vr, Vs, Vt, partA, Zf, Zg, Zh, Zi, if_true, if_false, Nat.reduceAdd, Nat.reduceLeDiff, Nat.reduceSub, Zj, Nat.zero_le, Zk, Zl, Zm, Zn, Zo, Zp, Zq, Zr, Zs, Zt, binA, eqA, kEq, nilEq, fillA, putL, allOne, Zu, Zv, AV.one, Zw, Zx, Zy, and_self, and_true, true_and, lenA, firstA, EndOk, resultA, oneOf, Zz, Ya, Yb, Yc, Yd, Ye, reduceCtorEq, Yf, Yg, natOf, upTo, bMax, bHigh, bLow, boundsA, evO, Yh, Yi, againOk, Vu, Vv, Vw, Yj, Yk, eq_self, Yl, Ym, Yn, setPs, or_true, true_or, false_or, or_false, ne_eq, Yo, Vx, Vy, Yp, Yq, i_syntax_name, c3_0, c3_1, c3_2, c3_3, c3_4, c3_5, c3_6, c3_7, e1]
    rcases Nat.lt_or_ge 16 (r.length + 1) with hl | hl
    rotate_left
    · have e2 : decide (((c :: r).length : Int) > 16) = false := decide_eq_false (by simp only [List.length_cons]; omega)
      simp only [List.length_cons] at e2
      simp -implicitDefEqProofs (maxDischargeDepth := 15) only [↓reduceIte, Yr, Ys, Yt, Yu, Yv, Yw, Yx, Yy, Yz, Wa, Wb, Wc, Wd, We, Wf, Wg, Wh, Wi, Wj, Wk, Wl, Wm, Wn, Wo, Wp, Wq, Wr, Ws, Wt, Wu, opA, Wv, Ww, Wx, Wy, Wz, Va, Za, Zb, List.replicate, Zc, Zd, Ze, Vb, Vc, Vd, Ve, Vf, AV.cells, Vg, Vh, Vi, Vj, AState.set_next, AState.kill_next, Vk, Vl, Vm, Vn, Vo, Vp, Vq, Vr, Vs, Vt, partA, Zf, Zg, Zh, Zi, if_true, if_false, Nat.reduceAdd, Nat.reduceLeDiff, Nat.reduceSub, Zj, Nat.zero_le, Zk, Zl, Zm, Zn, Zo, Zp, Zq, Zr, Zs, Zt, binA, eqA, kEq, nilEq, fillA, putL, allOne, Zu, Zv, AV.one, Zw, Zx, Zy, and_self, and_true, true_and, lenA, firstA, EndOk, resultA, oneOf, Zz, Ya, Yb, Yc, Yd, Ye, reduceCtorEq, Yf, Yg, natOf, upTo, bMax, bHigh, bLow, boundsA, evO, Yh, Yi, againOk, Vu, Vv, Vw, Yj, Yk, eq_self, Yl, Ym, Yn, setPs, or_true, true_or, false_or, or_false, ne_eq, Yo, Vx, Vy, Yp, Yq, i_syntax_name, c3_0, c3_1, c3_2, c3_3, c3_4, c3_5, c3_6, c3_7, e1, e2]
      refine RunV.to (h1 c _) ?_
      cases hc : q1 c
      · simp -implicitDefEqProofs (maxDischargeDepth := 15) only [↓reduceIte, Yr, Ys, Yt, Yu, Yv, Yw, Yx, Yy, Yz, Wa, Wb, Wc, Wd, We, Wf, Wg, Wh, Wi, Wj, Wk, Wl, Wm, Wn, Wo, Wp, Wq, Wr, Ws, Wt, Wu, opA, Wv, Ww, Wx, Wy, Wz, Va, Za, Zb, List.replicate, Zc, Zd, Ze, Vb, Vc, Vd, Ve, Vf, AV.cells, Vg, Vh, Vi, Vj, AState.set_next, AState.kill_next, Vk, Vl, Vm, Vn, Vo, Vp, Vq, Vr, Vs, Vt, partA, Zf, Zg, Zh, Zi, if_true, if_false, Nat.reduceAdd, Nat.reduceLeDiff, Nat.reduceSub, Zj, Nat.zero_le, Zk, Zl, Zm, Zn, Zo, Zp, Zq, Zr, Zs, Zt, binA, eqA, kEq, nilEq, fillA, putL, allOne, Zu, Zv, AV.one, Zw, Zx, Zy, and_self, and_true, true_and, lenA, firstA, EndOk, resultA, oneOf, Zz, Ya, Yb, Yc, Yd, Ye, reduceCtorEq, Yf, Yg, natOf, upTo, bMax, bHigh, bLow, boundsA, evO, Yh, Yi, againOk, Vu, Vv, Vw, Yj, Yk, eq_self, Yl, Ym, Yn, setPs, or_true, true_or, false_or, or_false, ne_eq, Yo, Vx, Vy, Yp, Yq, i_syntax_name, c3_0, c3_1, c3_2, c3_3, c3_4, c3_5, c3_6, c3_7, hc]
        exact ⟨by simp, hE⟩
      · simp -implicitDefEqProofs (maxDischargeDepth := 15) only [↓reduceIte, Yr, Ys, Yt, Yu, Yv, Yw, Yx, Yy, Yz, Wa, Wb, Wc, Wd, We, Wf, Wg, Wh, Wi, Wj, Wk, Wl, Wm, Wn, Wo, Wp, Wq, Wr, Ws, Wt, Wu, opA, Wv, Ww, Wx, Wy, Wz, Va, Za, Zb, List.replicate, Zc, Zd, Ze, Vb, Vc, Vd, Ve, Vf, AV.cells, Vg, Vh, Vi, Vj, AState.set_next, AState.kill_next, Vk, Vl, Vm, Vn, Vo, Vp, Vq, Vr, Vs, Vt, partA, Zf, Zg, Zh, Zi, if_true, if_false, Nat.reduceAdd, Nat.reduceLeDiff, Nat.reduceSub, Zj, Nat.zero_le, Zk, Zl, Zm, Zn, Zo, Zp, Zq, Zr, Zs, Zt, binA, eqA, kEq, nilEq, fillA, putL, allOne, Zu, Zv, AV.one, Zw, Zx, Zy, and_self, and_true, true_and, lenA, firstA, EndOk, resultA, oneOf, Zz, Ya, Yb, Yc, Yd, Ye, reduceCtorEq, Yf, Yg, natOf, upTo, bMax, bHigh, bLow, boundsA, evO, Yh, Yi, againOk, Vu, Vv, Vw, Yj, Yk, eq_self, Yl, Ym, Yn, setPs, or_true, true_or, false_or, or_false, ne_eq, Yo, Vx, Vy, Yp, Yq, i_syntax_name, c3_0, c3_1, c3_2, c3_3, c3_4, c3_5, c3_6, c3_7, hc]
        have hW1 := hW.push (.cells [.func (.func n2) [] []] true)
        have hStr : Strs (((σ.push (.cells [.func (.func n2) [] []] true)).push (.cells [.str [97, 108, 108], .str [115, 111, 109, 101], .str [102, 97, 108, 115, 101], .str [110, 101, 120, 116], .str [97, 108, 119, 97, 121, 115], .str [117, 110, 116, 105, 108]] true))).get (some ((σ.push (.cells [.func (.func n2) [] []] true)).next, 0)) 6 1 barred :=
          .inr ⟨rfl, rfl, _, 0, _, true, rfl, Vg, by simp, rfl⟩
        refine RunV.to (index_strs_ok hStr (by omega) (c :: r)) ?_
        cases hin : barred.contains (c :: r)
        · have e3 : ((1 : Int).toNat ≤ r.length + 1) := by show 1 ≤ r.length + 1; omega
          simp -implicitDefEqProofs (maxDischargeDepth := 15) only [↓reduceIte, Yr, Ys, Yt, Yu, Yv, Yw, Yx, Yy, Yz, Wa, Wb, Wc, Wd, We, Wf, Wg, Wh, Wi, Wj, Wk, Wl, Wm, Wn, Wo, Wp, Wq, Wr, Ws, Wt, Wu, opA, Wv, Ww, Wx, Wy, Wz, Va, Za, Zb, List.replicate, Zc, Zd, Ze, Vb, Vc, Vd, Ve, Vf, AV.cells, Vg, Vh, Vi, Vj, AState.set_next, AState.kill_next, Vk, Vl, Vm, Vn, Vo, Vp, Vq, Vr, Vs, Vt, partA, Zf, Zg, Zh, Zi, if_true, if_false, Nat.reduceAdd, Nat.reduceLeDiff, Nat.reduceSub, Zj, Nat.zero_le, Zk, Zl, Zm, Zn, Zo, Zp, Zq, Zr, Zs, Zt, binA, eqA, kEq, nilEq, fillA, putL, allOne, Zu, Zv, AV.one, Zw, Zx, Zy, and_self, and_true, true_and, lenA, firstA, EndOk, resultA, oneOf, Zz, Ya, Yb, Yc, Yd, Ye, reduceCtorEq, Yf, Yg, natOf, upTo, bMax, bHigh, bLow, boundsA, evO, Yh, Yi, againOk, Vu, Vv, Vw, Yj, Yk, eq_self, Yl, Ym, Yn, setPs, or_true, true_or, false_or, or_false, ne_eq, Yo, Vx, Vy, Yp, Yq, i_syntax_name, c3_0, c3_1, c3_2, c3_3, c3_4, c3_5, c3_6, c3_7, e3, List.take_length]
          have hW2 := hW1.push (.cells [.str [97, 108, 108], .str [115, 111, 109, 101], .str [102, 97, 108, 115, 101], .str [110, 101, 120, 116], .str [97, 108, 119, 97, 121, 115], .str [117, 110, 116, 105, 108]] true)
          refine RunV.to (containsFunc_ok hmx (sz := 1) (ld := none) rf_slices_ContainsFunc_byte rf_slices_IndexFunc_byte (xs := r) (q := fun b => !q2 b) rfl (by simp only [List.length_cons] at hb; omega) (.inr rfl) fun k x hx => ⟨bI x, ⟨_, 0, _, _, rfl, Vg, ?_⟩, nameS1_ok h2 x _ _ ?_⟩) ?_
          · simp only [partA, Nat.mul_one, Nat.zero_add]; exact bytes_elem hx
          · rw [Vh (by simp only [AState.push_next]; omega), Vh (by simp only [AState.push_next]; omega), Vg]
          · simp -implicitDefEqProofs (maxDischargeDepth := 15) only [↓reduceIte, Yr, Ys, Yt, Yu, Yv, Yw, Yx, Yy, Yz, Wa, Wb, Wc, Wd, We, Wf, Wg, Wh, Wi, Wj, Wk, Wl, Wm, Wn, Wo, Wp, Wq, Wr, Ws, Wt, Wu, opA, Wv, Ww, Wx, Wy, Wz, Va, Za, Zb, List.replicate, Zc, Zd, Ze, Vb, Vc, Vd, Ve, Vf, AV.cells, Vg, Vh, Vi, Vj, AState.set_next, AState.kill_next, Vk, Vl, Vm, Vn, Vo, Vp, Vq, Vr, Vs, Vt, partA, Zf, Zg, Zh, Zi, if_true, if_false, Nat.reduceAdd, Nat.reduceLeDiff, Nat.reduceSub, Zj, Nat.zero_le, Zk, Zl, Zm, Zn, Zo, Zp, Zq, Zr, Zs, Zt, binA, eqA, kEq, nilEq, fillA, putL, allOne, Zu, Zv, AV.one, Zw, Zx, Zy, and_self, and_true, true_and, lenA, firstA, EndOk, resultA, oneOf, Zz, Ya, Yb, Yc, Yd, Ye, reduceCtorEq, Yf, Yg, natOf, upTo, bMax, bHigh, bLow, boundsA, evO, Yh, Yi, againOk, Vu, Vv, Vw, Yj, Yk, eq_self, Yl, Ym, Yn, setPs, or_true, true_or, false_or, or_false, ne_eq, Yo, Vx, Vy, Yp, Yq, i_syntax_name, c3_0, c3_1, c3_2, c3_3, c3_4, c3_5, c3_6, c3_7]
            refine ⟨?_, fun i b e => sub_push hW2 _ i b (sub_push hW1 _ i b (hE i b e))⟩
            rw [show decide (r.length ≤ 15) = true from decide_eq_true (by omega)]
            simp [List.all_eq_not_any_not]
        · simp -implicitDefEqProofs (maxDischargeDepth := 15) only [↓reduceIte, Yr, Ys, Yt, Yu, Yv, Yw, Yx, Yy, Yz, Wa, Wb, Wc, Wd, We, Wf, Wg, Wh, Wi, Wj, Wk, Wl, Wm, Wn, Wo, Wp, Wq, Wr, Ws, Wt, Wu, opA, Wv, Ww, Wx, Wy, Wz, Va, Za, Zb, List.replicate, Zc, Zd, Ze, Vb, Vc, Vd, Ve, Vf, AV.cells, Vg, Vh, Vi, Vj, AState.set_next, AState.kill_next, Vk, Vl, Vm, Vn, Vo, Vp, Vq, Vr, Vs, Vt, partA, Zf, Zg, Zh, Zi, if_true, if_false, Nat.reduceAdd, Nat.reduceLeDiff, Nat.reduceSub, Zj, Nat.zero_le, Zk, Zl, Zm, Zn, Zo, Zp, Zq, Zr, Zs, Zt, binA, eqA, kEq, nilEq, fillA, putL, allOne, Zu, Zv, AV.one, Zw, Zx, Zy, and_self, and_true, true_and, lenA, firstA, EndOk, resultA, oneOf, Zz, Ya, Yb, Yc, Yd, Ye, reduceCtorEq, Yf, Yg, natOf, upTo, bMax, bHigh, bLow, boundsA, evO, Yh, Yi, againOk, Vu, Vv, Vw, Yj, Yk, eq_self, Yl, Ym, Yn, setPs, or_true, true_or, false_or, or_false, ne_eq, Yo, Vx, Vy, Yp, Yq, i_syntax_name, c3_0, c3_1, c3_2, c3_3, c3_4, c3_5, c3_6, c3_7]
          exact ⟨by simp, fun i b e => sub_push hW1 _ i b (hE i b e)⟩
    · have e2 : decide (((c :: r).length : Int) > 16) = true := decide_eq_true (by simp only [List.length_cons]; omega)
      simp only [List.length_cons] at e2
      simp -implicitDefEqProofs (maxDischargeDepth := 15) only [↓reduceIte, Yr, Ys, Yt, Yu, Yv, Yw, Yx, Yy, Yz, Wa, Wb, Wc, Wd, We, Wf, Wg, Wh, Wi, Wj, Wk, Wl, Wm, Wn, Wo, Wp, Wq, Wr, Ws, Wt, Wu, opA, Wv, Ww, Wx, Wy, Wz, Va, Za, Zb, List.replicate, Zc, Zd, Ze, Vb, Vc, Vd, Ve, Vf, AV.cells, Vg, Vh, Vi, Vj, AState.set_next, AState.kill_next, Vk, Vl, Vm, Vn, Vo, Vp, Vq, Vr, Vs, Vt, partA, Zf, Zg, Zh, Zi, if_true, if_false, Nat.reduceAdd, Nat.reduceLeDiff, Nat.reduceSub, Zj, Nat.zero_le, Zk, Zl, Zm, Zn, Zo, Zp, Zq, Zr, Zs, Zt, binA, eqA, kEq, nilEq, fillA, putL, allOne, Zu, Zv, AV.one, Zw, Zx, Zy, and_self, and_true, true_and, lenA, firstA, EndOk, resultA, oneOf, Zz, Ya, Yb, Yc, Yd, Ye, reduceCtorEq, Yf, Yg, natOf, upTo, bMax, bHigh, bLow, boundsA, evO, Yh, Yi, againOk, Vu, Vv, Vw, Yj, Yk, eq_self, Yl, Ym, Yn, setPs, or_true, true_or, false_or, or_false, ne_eq, Yo, Vx, Vy, Yp, Yq, i_syntax_name, c3_0, c3_1, c3_2, c3_3, c3_4, c3_5, c3_6, c3_7, e1, e2]
      exact ⟨by rw [show decide (r.length ≤ 15) = false from decide_eq_false (by omega)]; simp, hE⟩
theorem pred_ok (s : Str) (hb : s.length ≤ 4611686018427387904) (σ : AState) : RunF RR Tryz.prog n_syntax_Predicate [.str s] σ (fun u σ' => u = .bool (predB s) ∧ σ' = σ) := by
  refine runF_intro hmx rf_syntax_Predicate ?_
  simp -implicitDefEqProofs (maxDischargeDepth := 15) only [↓reduceIte, Yr, Ys, Yt, Yu, Yv, Yw, Yx, Yy, Yz, Wa, Wb, Wc, Wd, We, Wf, Wg, Wh, Wi, Wj, Wk, Wl, Wm, Wn, Wo, Wp, Wq, Wr, Ws, Wt, Wu, opA, Wv, Ww, Wx, Wy, Wz, Va, Za, Zb, List.replicate, Zc, Zd, Ze, Vb, Vc, Vd, Ve, Vf, AV.cells, Vg, Vh, Vi, Vj, AState.set_next, AState.kill_next, Vk, Vl, Vm, Vn, Vo, Vp, Vq, Vr, Vs, Vt, partA, Zf, Zg, Zh, Zi, if_true, if_false, Nat.reduceAdd, Nat.reduceLeDiff, Nat.reduceSub, Zj, Nat.zero_le, Zk, Zl, Zm, Zn, Zo, Zp, Zq, Zr, Zs, Zt, binA, eqA, kEq, nilEq, fillA, putL, allOne, Zu, Zv, AV.one, Zw, Zx, Zy, and_self, and_true, true_and, lenA, firstA, EndOk, resultA, oneOf, Zz, Ya, Yb, Yc, Yd, Ye, reduceCtorEq, Yf, Yg, natOf, upTo, bMax, bHigh, bLow, boundsA, evO, Yh, Yi, againOk, Vu, Vv, Vw, Yj, Yk, eq_self, Yl, Ym, Yn, setPs, or_true, true_or, false_or, or_false, ne_eq, Yo, Vx, Vy, Yp, Yq, i_syntax_Predicate, c21_0, c21_1, c21_2]
  refine RunV.to (name_ok capital_ok letter_ok s hb σ) ?_
  simp -implicitDefEqProofs (maxDischargeDepth := 15) only [↓reduceIte, Yr, Ys, Yt, Yu, Yv, Yw, Yx, Yy, Yz, Wa, Wb, Wc, Wd, We, Wf, Wg, Wh, Wi, Wj, Wk, Wl, Wm, Wn, Wo, Wp, Wq, Wr, Ws, Wt, Wu, opA, Wv, Ww, Wx, Wy, Wz, Va, Za, Zb, List.replicate, Zc, Zd, Ze, Vb, Vc, Vd, Ve, Vf, AV.cells, Vg, Vh, Vi, Vj, AState.set_next, AState.kill_next, Vk, Vl, Vm, Vn, Vo, Vp, Vq, Vr, Vs, Vt, partA, Zf, Zg, Zh, Zi, if_true, if_false, Nat.reduceAdd, Nat.reduceLeDiff, Nat.reduceSub, Zj, Nat.zero_le, Zk, Zl, Zm, Zn, Zo, Zp, Zq, Zr, Zs, Zt, binA, eqA, kEq, nilEq, fillA, putL, allOne, Zu, Zv, AV.one, Zw, Zx, Zy, and_self, and_true, true_and, lenA, firstA, EndOk, resultA, oneOf, Zz, Ya, Yb, Yc, Yd, Ye, reduceCtorEq, Yf, Yg, natOf, upTo, bMax, bHigh, bLow, boundsA, evO, Yh, Yi, againOk, Vu, Vv, Vw, Yj, Yk, eq_self, Yl, Ym, Yn, setPs, or_true, true_or, false_or, or_false, ne_eq, Yo, Vx, Vy, Yp, Yq, i_syntax_Predicate, c21_0, c21_1, c21_2, predB]
theorem fun_ok (s : Str) (hb : s.length ≤ 4611686018427387904) (σ : AState) : RunF RR Tryz.prog n_syntax_Function [.str s] σ (fun u σ' => u = .bool (funB s) ∧ σ' = σ) := by
  refine runF_intro hmx rf_syntax_Function ?_
  simp -implicitDefEqProofs (maxDischargeDepth := 15) only [↓reduceIte, Yr, Ys, Yt, Yu, Yv, Yw, Yx, Yy, Yz, Wa, Wb, Wc, Wd, We, Wf, Wg, Wh, Wi, Wj, Wk, Wl, Wm, Wn, Wo, Wp, Wq, Wr, Ws, Wt, Wu, opA, Wv, Ww, Wx, Wy, Wz, Va, Za, Zb, List.replicate, Zc, Zd, Ze, Vb, Vc, Vd, Ve, Vf, AV.cells, Vg, Vh, Vi, Vj, AState.set_next, AState.kill_next, Vk, Vl, Vm, Vn, Vo, Vp, Vq, Vr, Vs, Vt, partA, Zf, Zg, Zh, Zi, if_true, if_false, Nat.reduceAdd, Nat.reduceLeDiff, Nat.reduceSub, Zj, Nat.zero_le, Zk, Zl, Zm, Zn, Zo, Zp, Zq, Zr, Zs, Zt, binA, eqA, kEq, nilEq, fillA, putL, allOne, Zu, Zv, AV.one, Zw, Zx, Zy, and_self, and_true, true_and, lenA, firstA, EndOk, resultA, oneOf, Zz, Ya, Yb, Yc, Yd, Ye, reduceCtorEq, Yf, Yg, natOf, upTo, bMax, bHigh, bLow, boundsA, evO, Yh, Yi, againOk, Vu, Vv, Vw, Yj, Yk, eq_self, Yl, Ym, Yn, setPs, or_true, true_or, false_or, or_false, ne_eq, Yo, Vx, Vy, Yp, Yq, i_syntax_Function, c9_0, c9_1, c9_2]
  refine RunV.to (name_ok fnS1_ok letter_ok s hb σ) ?_
  simp -implicitDefEqProofs (maxDischargeDepth := 15) only [↓reduceIte, Yr, Ys, Yt, Yu, Yv, Yw, Yx, Yy, Yz, Wa, Wb, Wc, Wd, We, Wf, Wg, Wh, Wi, Wj, Wk, Wl, Wm, Wn, Wo, Wp, Wq, Wr, Ws, Wt, Wu, opA, Wv, Ww, Wx, Wy, Wz, Va, Za, Zb, List.replicate, Zc, Zd, Ze, Vb, Vc, Vd, Ve, Vf, AV.cells, Vg, Vh, Vi, Vj, AState.set_next, AState.kill_next, Vk, Vl, Vm, Vn, Vo, Vp, Vq, Vr, Vs, Vt, partA, Zf, Zg, Zh, Zi, if_true, if_false, Nat.reduceAdd, Nat.reduceLeDiff, Nat.reduceSub, Zj, Nat.zero_le, Zk, Zl, Zm, Zn, Zo, Zp, Zq, Zr, Zs, Zt, binA, eqA, kEq, nilEq, fillA, putL, allOne, Zu, Zv, AV.one, Zw, Zx, Zy, and_self, and_true, true_and, lenA, firstA, EndOk, resultA, oneOf, Zz, Ya, Yb, Yc, Yd, Ye, reduceCtorEq, Yf, Yg, natOf, upTo, bMax, bHigh, bLow, boundsA, evO, Yh, Yi, againOk, Vu, Vv, Vw, Yj, Yk, eq_self, Yl, Ym, Yn, setPs, or_true, true_or, false_or, or_false, ne_eq, Yo, Vx, Vy, Yp, Yq, i_syntax_Function, c9_0, c9_1, c9_2, funB]
theorem var_ok (s : Str) (hb : s.length ≤ 4611686018427387904) (σ : AState) : RunF RR Tryz.prog n_syntax_Variable [.str s] σ (fun u σ' => u = .bool (varB s) ∧ σ' = σ) := by
  refine runF_intro hmx rf_syntax_Variable ?_
  simp -implicitDefEqProofs (maxDischargeDepth := 15) only [↓reduceIte, Yr, Ys, Yt, Yu, Yv, Yw, Yx, Yy, Yz, Wa, Wb, Wc, Wd, We, Wf, Wg, Wh, Wi, Wj, Wk, Wl, Wm, Wn, Wo, Wp, Wq, Wr, Ws, Wt, Wu, opA, Wv, Ww, Wx, Wy, Wz, Va, Za, Zb, List.replicate, Zc, Zd, Ze, Vb, Vc, Vd, Ve, Vf, AV.cells, Vg, Vh, Vi, Vj, AState.set_next, AState.kill_next, Vk, Vl, Vm, Vn, Vo, Vp, Vq, Vr, Vs, Vt, partA, Zf, Zg, Zh, Zi, if_true, if_false, Nat.reduceAdd, Nat.reduceLeDiff, Nat.reduceSub, Zj, Nat.zero_le, Zk, Zl, Zm, Zn, Zo, Zp, Zq, Zr, Zs, Zt, binA, eqA, kEq, nilEq, fillA, putL, allOne, Zu, Zv, AV.one, Zw, Zx, Zy, and_self, and_true, true_and, lenA, firstA, EndOk, resultA, oneOf, Zz, Ya, Yb, Yc, Yd, Ye, reduceCtorEq, Yf, Yg, natOf, upTo, bMax, bHigh, bLow, boundsA, evO, Yh, Yi, againOk, Vu, Vv, Vw, Yj, Yk, eq_self, Yl, Ym, Yn, setPs, or_true, true_or, false_or, or_false, ne_eq, Yo, Vx, Vy, Yp, Yq, i_syntax_Variable, c60_0, c60_1, c60_2]
  refine RunV.to (name_ok varS1_ok digit_ok s hb σ) ?_
  simp -implicitDefEqProofs (maxDischargeDepth := 15) only [↓reduceIte, Yr, Ys, Yt, Yu, Yv, Yw, Yx, Yy, Yz, Wa, Wb, Wc, Wd, We, Wf, Wg, Wh, Wi, Wj, Wk, Wl, Wm, Wn, Wo, Wp, Wq, Wr, Ws, Wt, Wu, opA, Wv, Ww, Wx, Wy, Wz, Va, Za, Zb, List.replicate, Zc, Zd, Ze, Vb, Vc, Vd, Ve, Vf, AV.cells, Vg, Vh, Vi, Vj, AState.set_next, AState.kill_next, Vk, Vl, Vm, Vn, Vo, Vp, Vq, Vr, Vs, Vt, partA, Zf, Zg, Zh, Zi, if_true, if_false, Nat.reduceAdd, Nat.reduceLeDiff, Nat.reduceSub, Zj, Nat.zero_le, Zk, Zl, Zm, Zn, Zo, Zp, Zq, Zr, Zs, Zt, binA, eqA, kEq, nilEq, fillA, putL, allOne, Zu, Zv, AV.one, Zw, Zx, Zy, and_self, and_true, true_and, lenA, firstA, EndOk, resultA, oneOf, Zz, Ya, Yb, Yc, Yd, Ye, reduceCtorEq, Yf, Yg, natOf, upTo, bMax, bHigh, bLow, boundsA, evO, Yh, Yi, againOk, Vu, Vv, Vw, Yj, Yk, eq_self, Yl, Ym, Yn, setPs, or_true, true_or, false_or, or_false, ne_eq, Yo, Vx, Vy, Yp, Yq, i_syntax_Variable, c60_0, c60_1, c60_2, varB]
theorem none_ok (s : Str) (σ : AState) : RunF RR Tryz.prog n_syntax_none [.str s] σ (fun u σ' => u = .bool s.isEmpty ∧ σ' = σ) := by
  refine runF_intro hmx rf_syntax_none ?_
  simp -implicitDefEqProofs (maxDischargeDepth := 15) only [↓reduceIte, Yr, Ys, Yt, Yu, Yv, Yw, Yx, Yy, Yz, Wa, Wb, Wc, Wd, We, Wf, Wg, Wh, Wi, Wj, Wk, Wl, Wm, Wn, Wo, Wp, Wq, Wr, Ws, Wt, Wu, opA, Wv, Ww, Wx, Wy, Wz, Va, Za, Zb, List.replicate, Zc, Zd, Ze, Vb, Vc, Vd, Ve, Vf, AV.cells, Vg, Vh, Vi, Vj, AState.set_next, AState.kill_next, Vk, Vl, Vm, Vn, Vo, Vp, Vq, Vr, Vs, Vt, partA, Zf, Zg, Zh, Zi, if_true, if_false, Nat.reduceAdd, Nat.reduceLeDiff, Nat.reduceSub, Zj, Nat.zero_le, Zk, Zl, Zm, Zn, Zo, Zp, Zq, Zr, Zs, Zt, binA, eqA, kEq, nilEq, fillA, putL, allOne, Zu, Zv, AV.one, Zw, Zx, Zy, and_self, and_true, true_and, lenA, firstA, EndOk, resultA, oneOf, Zz, Ya, Yb, Yc, Yd, Ye, reduceCtorEq, Yf, Yg, natOf, upTo, bMax, bHigh, bLow, boundsA, evO, Yh, Yi, againOk, Vu, Vv, Vw, Yj, Yk, eq_self, Yl, Ym, Yn, setPs, or_true, true_or, false_or, or_false, ne_eq, Yo, Vx, Vy, Yp, Yq, i_syntax_none, c45_0, c45_1]
  cases s <;> rfl
mutual
def Do.T.len : T → Nat
  | .mk _ n ar => n.length + T.lens ar
def Do.T.lens : List T → Nat
  | [] => 0
  | t :: r => t.len + T.lens r
end
theorem lens_mem {l : List T} {t : T} (h : t ∈ l) : t.len ≤ T.lens l := by
  induction l with
  | nil => cases h
  | cons a r ih =>
    simp only [T.lens]
    rcases List.mem_cons.1 h with e | e
    · subst e; omega
    · have := ih e; omega
theorem rights_all (l : List T) : T.rights l = !l.any (fun t => !t.right) := by
  induction l with
  | nil => rfl
  | cons a r ih => simp only [T.rights, ih, List.any_cons]; cases a.right <;> simp
theorem term_ok : ∀ (m : Nat) (t : T), t.cnt ≤ m → m ≤ 1152921504606846976 → t.len ≤ 1152921504606846976 → ∀ (σ : AState) (xs : List AV), DAtL σ.get t.dv xs →
    RunF RR Tryz.prog n_syntax_term [.agg xs, .int .i64 0] σ (fun u σ' => u = .bool t.right ∧ σ' = σ) := by
  intro m
  induction m using Nat.strongRecOn with
  | _ m ih =>
  intro t ht hm hlen σ xs hD
  refine RunV.wf fun hW => RunV.forget rfl ?_
  refine runF_intro hmx rf_syntax_term ?_
  obtain ⟨v, nm, ar⟩ := t
  obtain ⟨o1, c1, z1, rfl, hA⟩ := T.cells hD
  simp only [T.cnt] at ht
  simp only [T.len] at hlen
  have hcl := cnts_len ar
  have hW1 := hW.push (.cells [.bool v, .str nm, .slice o1 ar.length c1 z1] true)
  have hE : Sub σ.get ((σ.push (.cells [.bool v, .str nm, .slice o1 ar.length c1 z1] true)).push (.cells [.int .i64 0] true)).get := (sub_push hW _).trans (sub_push hW1 _)
  cases v
  · simp -implicitDefEqProofs (maxDischargeDepth := 15) only [↓reduceIte, Yr, Ys, Yt, Yu, Yv, Yw, Yx, Yy, Yz, Wa, Wb, Wc, Wd, We, Wf, Wg, Wh, Wi, Wj, Wk, Wl, Wm, Wn, Wo, Wp, Wq, Wr, Ws, Wt, Wu, opA, Wv, Ww, Wx, Wy, Wz, Va, Za, Zb, List.replicate, Zc, Zd, Ze, Vb, Vc, Vd, Ve, Vf, AV.cells, Vg, Vh, Vi, Vj, AState.set_next, AState.kill_next, Vk, Vl, Vm, Vn, Vo, Vp, Vq, Vr, Vs, Vt, partA, Zf, Zg, Zh, Zi, if_true, if_false, Nat.reduceAdd, Nat.reduceLeDiff, Nat.reduceSub, Zj, Nat.zero_le, Zk, Zl, Zm, Zn, Zo, Zp, Zq, Zr, Zs, Zt, binA, eqA, kEq, nilEq, fillA, putL, allOne, Zu, Zv, AV.one, Zw, Zx, Zy, and_self, and_true, true_and, lenA, firstA, EndOk, resultA, oneOf, Zz, Ya, Yb, Yc, Yd, Ye, reduceCtorEq, Yf, Yg, natOf, upTo, bMax, bHigh, bLow, boundsA, evO, Yh, Yi, againOk, Vu, Vv, Vw, Yj, Yk, eq_self, Yl, Ym, Yn, setPs, or_true, true_or, false_or, or_false, ne_eq, Yo, Vx, Vy, Yp, Yq, i_syntax_term, c32_0, c32_1, c32_2, c32_3, c32_4, c32_5, c32_6, c32_7, c32_8]
    refine RunV.to (fun_ok nm (by omega) _) ?_
    cases hn : funB nm
    · simp -implicitDefEqProofs (maxDischargeDepth := 15) only [↓reduceIte, Yr, Ys, Yt, Yu, Yv, Yw, Yx, Yy, Yz, Wa, Wb, Wc, Wd, We, Wf, Wg, Wh, Wi, Wj, Wk, Wl, Wm, Wn, Wo, Wp, Wq, Wr, Ws, Wt, Wu, opA, Wv, Ww, Wx, Wy, Wz, Va, Za, Zb, List.replicate, Zc, Zd, Ze, Vb, Vc, Vd, Ve, Vf, AV.cells, Vg, Vh, Vi, Vj, AState.set_next, AState.kill_next, Vk, Vl, Vm, Vn, Vo, Vp, Vq, Vr, Vs, Vt, partA, Zf, Zg, Zh, Zi, if_true, if_false, Nat.reduceAdd, Nat.reduceLeDiff, Nat.reduceSub, Zj, Nat.zero_le, Zk, Zl, Zm, Zn, Zo, Zp, Zq, Zr, Zs, Zt, binA, eqA, kEq, nilEq, fillA, putL, allOne, Zu, Zv, AV.one, Zw, Zx, Zy, and_self, and_true, true_and, lenA, firstA, EndOk, resultA, oneOf, Zz, Ya, Yb, Yc, Yd, Ye, reduceCtorEq, Yf, Yg, natOf, upTo, bMax, bHigh, bLow, boundsA, evO, Yh, Yi, againOk, Vu, Vv, Vw, Yj, Yk, eq_self, Yl, Ym, Yn, setPs, or_true, true_or, false_or, or_false, ne_eq, Yo, Vx, Vy, Yp, Yq, i_syntax_term, c32_0, c32_1, c32_2, c32_3, c32_4, c32_5, c32_6, c32_7, c32_8]
      exact ⟨by simp [T.right, hn], hE⟩
    · cases h4 : decide ((ar.length : Int) ≤ 4)
      · simp -implicitDefEqProofs (maxDischargeDepth := 15) only [↓reduceIte, Yr, Ys, Yt, Yu, Yv, Yw, Yx, Yy, Yz, Wa, Wb, Wc, Wd, We, Wf, Wg, Wh, Wi, Wj, Wk, Wl, Wm, Wn, Wo, Wp, Wq, Wr, Ws, Wt, Wu, opA, Wv, Ww, Wx, Wy, Wz, Va, Za, Zb, List.replicate, Zc, Zd, Ze, Vb, Vc, Vd, Ve, Vf, AV.cells, Vg, Vh, Vi, Vj, AState.set_next, AState.kill_next, Vk, Vl, Vm, Vn, Vo, Vp, Vq, Vr, Vs, Vt, partA, Zf, Zg, Zh, Zi, if_true, if_false, Nat.reduceAdd, Nat.reduceLeDiff, Nat.reduceSub, Zj, Nat.zero_le, Zk, Zl, Zm, Zn, Zo, Zp, Zq, Zr, Zs, Zt, binA, eqA, kEq, nilEq, fillA, putL, allOne, Zu, Zv, AV.one, Zw, Zx, Zy, and_self, and_true, true_and, lenA, firstA, EndOk, resultA, oneOf, Zz, Ya, Yb, Yc, Yd, Ye, reduceCtorEq, Yf, Yg, natOf, upTo, bMax, bHigh, bLow, boundsA, evO, Yh, Yi, againOk, Vu, Vv, Vw, Yj, Yk, eq_self, Yl, Ym, Yn, setPs, or_true, true_or, false_or, or_false, ne_eq, Yo, Vx, Vy, Yp, Yq, i_syntax_term, c32_0, c32_1, c32_2, c32_3, c32_4, c32_5, c32_6, c32_7, c32_8, h4]
        have : decide (ar.length ≤ 4) = false := by simp only [decide_eq_false_iff_not] at h4 ⊢; omega
        exact ⟨by simp only [T.right, hn, this]; simp, hE⟩
      · have h5 : decide (ar.length ≤ 4) = true := by simp only [decide_eq_true_eq] at h4 ⊢; omega
        simp -implicitDefEqProofs (maxDischargeDepth := 15) only [↓reduceIte, Yr, Ys, Yt, Yu, Yv, Yw, Yx, Yy, Yz, Wa, Wb, Wc, Wd, We, Wf, Wg, Wh, Wi, Wj, Wk, Wl, Wm, Wn, Wo, Wp, Wq, Wr, Ws, Wt, Wu, opA, Wv, Ww, Wx, Wy, Wz, Va, Za, Zb, List.replicate, Zc, Zd, Ze, Vb, Vc, Vd, Ve, Vf, AV.cells, Vg, Vh, Vi, Vj, AState.set_next, AState.kill_next, Vk, Vl, Vm, Vn, Vo, Vp, Vq, Vr, Vs, Vt, partA, Zf, Zg, Zh, Zi, if_true, if_false, Nat.reduceAdd, Nat.reduceLeDiff, Nat.reduceSub, Zj, Nat.zero_le, Zk, Zl, Zm, Zn, Zo, Zp, Zq, Zr, Zs, Zt, binA, eqA, kEq, nilEq, fillA, putL, allOne, Zu, Zv, AV.one, Zw, Zx, Zy, and_self, and_true, true_and, lenA, firstA, EndOk, resultA, oneOf, Zz, Ya, Yb, Yc, Yd, Ye, reduceCtorEq, Yf, Yg, natOf, upTo, bMax, bHigh, bLow, boundsA, evO, Yh, Yi, againOk, Vu, Vv, Vw, Yj, Yk, eq_self, Yl, Ym, Yn, setPs, or_true, true_or, false_or, or_false, ne_eq, Yo, Vx, Vy, Yp, Yq, i_syntax_term, c32_0, c32_1, c32_2, c32_3, c32_4, c32_5, c32_6, c32_7, c32_8, h4]
        have hA' := hA.sub hE
        refine RunV.to (containsFunc_ok hmx (sz := 3) (ld := some 3) rf_slices_ContainsFunc_api_Term rf_slices_IndexFunc_api_Term (xs := ar) (q := fun t => !t.right) rfl (by omega) hA'.2.1 fun k x hx => ?_) ?_
        · obtain ⟨rfl, i, off, cs, w, rfl, hg, hl3, xs, hxs, hd⟩ := hA'.elem hx
          refine ⟨.agg xs, ⟨i, off, cs, w, rfl, hg, ?_⟩, ?_⟩
          · simp only [partA]; rw [if_pos hl3, hxs]
          · have hxm := List.mem_of_getElem? hx
            have hc := cnts_mem hxm
            have hl := lens_mem hxm
            refine RunV.wf fun hW2 => RunV.forget rfl ?_
            refine runF_intro hmx rf_syntax_termS1 ?_
            have hl : 3 ≤ xs.length := by rw [hd.length, T.dv_len]; omega
            have ht3 : xs.take 3 = xs := List.take_of_length_le (by rw [hd.length, T.dv_len]; omega)
            have hb : (((σ.push (.cells [.bool false, .str nm, .slice (some (i, off)) ar.length c1 3] true)).push (.cells [.int .i64 0] true)).push (.cells xs true)).get (σ.push (.cells [.bool false, .str nm, .slice (some (i, off)) ar.length c1 3] true)).next = some (.cells [.int .i64 0] true) := by
              rw [Vh (by simp only [AState.push_next]; omega), Vg]
            simp -implicitDefEqProofs (maxDischargeDepth := 15) only [↓reduceIte, Yr, Ys, Yt, Yu, Yv, Yw, Yx, Yy, Yz, Wa, Wb, Wc, Wd, We, Wf, Wg, Wh, Wi, Wj, Wk, Wl, Wm, Wn, Wo, Wp, Wq, Wr, Ws, Wt, Wu, opA, Wv, Ww, Wx, Wy, Wz, Va, Za, Zb, List.replicate, Zc, Zd, Ze, Vb, Vc, Vd, Ve, Vf, AV.cells, Vg, Vh, Vi, Vj, AState.set_next, AState.kill_next, Vk, Vl, Vm, Vn, Vo, Vp, Vq, Vr, Vs, Vt, partA, Zf, Zg, Zh, Zi, if_true, if_false, Nat.reduceAdd, Nat.reduceLeDiff, Nat.reduceSub, Zj, Nat.zero_le, Zk, Zl, Zm, Zn, Zo, Zp, Zq, Zr, Zs, Zt, binA, eqA, kEq, nilEq, fillA, putL, allOne, Zu, Zv, AV.one, Zw, Zx, Zy, and_self, and_true, true_and, lenA, firstA, EndOk, resultA, oneOf, Zz, Ya, Yb, Yc, Yd, Ye, reduceCtorEq, Yf, Yg, natOf, upTo, bMax, bHigh, bLow, boundsA, evO, Yh, Yi, againOk, Vu, Vv, Vw, Yj, Yk, eq_self, Yl, Ym, Yn, setPs, or_true, true_or, false_or, or_false, ne_eq, Yo, Vx, Vy, Yp, Yq, i_syntax_termS1, c59_0, c59_1, c59_2, hl, ht3, hb]
            refine RunV.to (ih x.cnt (by omega) x (Nat.le_refl _) (by omega) (by omega) _ _ (DAtL.sub (sub_push hW2 _) _ _ hd)) ?_
            simp -implicitDefEqProofs (maxDischargeDepth := 15) only [↓reduceIte, Yr, Ys, Yt, Yu, Yv, Yw, Yx, Yy, Yz, Wa, Wb, Wc, Wd, We, Wf, Wg, Wh, Wi, Wj, Wk, Wl, Wm, Wn, Wo, Wp, Wq, Wr, Ws, Wt, Wu, opA, Wv, Ww, Wx, Wy, Wz, Va, Za, Zb, List.replicate, Zc, Zd, Ze, Vb, Vc, Vd, Ve, Vf, AV.cells, Vg, Vh, Vi, Vj, AState.set_next, AState.kill_next, Vk, Vl, Vm, Vn, Vo, Vp, Vq, Vr, Vs, Vt, partA, Zf, Zg, Zh, Zi, if_true, if_false, Nat.reduceAdd, Nat.reduceLeDiff, Nat.reduceSub, Zj, Nat.zero_le, Zk, Zl, Zm, Zn, Zo, Zp, Zq, Zr, Zs, Zt, binA, eqA, kEq, nilEq, fillA, putL, allOne, Zu, Zv, AV.one, Zw, Zx, Zy, and_self, and_true, true_and, lenA, firstA, EndOk, resultA, oneOf, Zz, Ya, Yb, Yc, Yd, Ye, reduceCtorEq, Yf, Yg, natOf, upTo, bMax, bHigh, bLow, boundsA, evO, Yh, Yi, againOk, Vu, Vv, Vw, Yj, Yk, eq_self, Yl, Ym, Yn, setPs, or_true, true_or, false_or, or_false, ne_eq, Yo, Vx, Vy, Yp, Yq, i_syntax_termS1, c59_0, c59_1, c59_2]
            exact sub_push hW2 _
        · simp -implicitDefEqProofs (maxDischargeDepth := 15) only [↓reduceIte, Yr, Ys, Yt, Yu, Yv, Yw, Yx, Yy, Yz, Wa, Wb, Wc, Wd, We, Wf, Wg, Wh, Wi, Wj, Wk, Wl, Wm, Wn, Wo, Wp, Wq, Wr, Ws, Wt, Wu, opA, Wv, Ww, Wx, Wy, Wz, Va, Za, Zb, List.replicate, Zc, Zd, Ze, Vb, Vc, Vd, Ve, Vf, AV.cells, Vg, Vh, Vi, Vj, AState.set_next, AState.kill_next, Vk, Vl, Vm, Vn, Vo, Vp, Vq, Vr, Vs, Vt, partA, Zf, Zg, Zh, Zi, if_true, if_false, Nat.reduceAdd, Nat.reduceLeDiff, Nat.reduceSub, Zj, Nat.zero_le, Zk, Zl, Zm, Zn, Zo, Zp, Zq, Zr, Zs, Zt, binA, eqA, kEq, nilEq, fillA, putL, allOne, Zu, Zv, AV.one, Zw, Zx, Zy, and_self, and_true, true_and, lenA, firstA, EndOk, resultA, oneOf, Zz, Ya, Yb, Yc, Yd, Ye, reduceCtorEq, Yf, Yg, natOf, upTo, bMax, bHigh, bLow, boundsA, evO, Yh, Yi, againOk, Vu, Vv, Vw, Yj, Yk, eq_self, Yl, Ym, Yn, setPs, or_true, true_or, false_or, or_false, ne_eq, Yo, Vx, Vy, Yp, Yq, i_syntax_term, c32_0, c32_1, c32_2, c32_3, c32_4, c32_5, c32_6, c32_7, c32_8]
          exact ⟨by simp only [T.right, hn, h5, rights_all]; simp, hE⟩
  · cases h0 : ((ar.length : Int) == 0)
    · simp -implicitDefEqProofs (maxDischargeDepth := 15) only [↓reduceIte, Yr, Ys, Yt, Yu, Yv, Yw, Yx, Yy, Yz, Wa, Wb, Wc, Wd, We, Wf, Wg, Wh, Wi, Wj, Wk, Wl, Wm, Wn, Wo, Wp, Wq, Wr, Ws, Wt, Wu, opA, Wv, Ww, Wx, Wy, Wz, Va, Za, Zb, List.replicate, Zc, Zd, Ze, Vb, Vc, Vd, Ve, Vf, AV.cells, Vg, Vh, Vi, Vj, AState.set_next, AState.kill_next, Vk, Vl, Vm, Vn, Vo, Vp, Vq, Vr, Vs, Vt, partA, Zf, Zg, Zh, Zi, if_true, if_false, Nat.reduceAdd, Nat.reduceLeDiff, Nat.reduceSub, Zj, Nat.zero_le, Zk, Zl, Zm, Zn, Zo, Zp, Zq, Zr, Zs, Zt, binA, eqA, kEq, nilEq, fillA, putL, allOne, Zu, Zv, AV.one, Zw, Zx, Zy, and_self, and_true, true_and, lenA, firstA, EndOk, resultA, oneOf, Zz, Ya, Yb, Yc, Yd, Ye, reduceCtorEq, Yf, Yg, natOf, upTo, bMax, bHigh, bLow, boundsA, evO, Yh, Yi, againOk, Vu, Vv, Vw, Yj, Yk, eq_self, Yl, Ym, Yn, setPs, or_true, true_or, false_or, or_false, ne_eq, Yo, Vx, Vy, Yp, Yq, i_syntax_term, c32_0, c32_1, c32_2, c32_3, c32_4, c32_5, c32_6, c32_7, c32_8, h0]
      refine ⟨?_, hE⟩
      have : ar.isEmpty = false := by
        cases ar with
        | nil => simp at h0
        | cons a r => rfl
      simp only [T.right, this]; simp
    · simp -implicitDefEqProofs (maxDischargeDepth := 15) only [↓reduceIte, Yr, Ys, Yt, Yu, Yv, Yw, Yx, Yy, Yz, Wa, Wb, Wc, Wd, We, Wf, Wg, Wh, Wi, Wj, Wk, Wl, Wm, Wn, Wo, Wp, Wq, Wr, Ws, Wt, Wu, opA, Wv, Ww, Wx, Wy, Wz, Va, Za, Zb, List.replicate, Zc, Zd, Ze, Vb, Vc, Vd, Ve, Vf, AV.cells, Vg, Vh, Vi, Vj, AState.set_next, AState.kill_next, Vk, Vl, Vm, Vn, Vo, Vp, Vq, Vr, Vs, Vt, partA, Zf, Zg, Zh, Zi, if_true, if_false, Nat.reduceAdd, Nat.reduceLeDiff, Nat.reduceSub, Zj, Nat.zero_le, Zk, Zl, Zm, Zn, Zo, Zp, Zq, Zr, Zs, Zt, binA, eqA, kEq, nilEq, fillA, putL, allOne, Zu, Zv, AV.one, Zw, Zx, Zy, and_self, and_true, true_and, lenA, firstA, EndOk, resultA, oneOf, Zz, Ya, Yb, Yc, Yd, Ye, reduceCtorEq, Yf, Yg, natOf, upTo, bMax, bHigh, bLow, boundsA, evO, Yh, Yi, againOk, Vu, Vv, Vw, Yj, Yk, eq_self, Yl, Ym, Yn, setPs, or_true, true_or, false_or, or_false, ne_eq, Yo, Vx, Vy, Yp, Yq, i_syntax_term, c32_0, c32_1, c32_2, c32_3, c32_4, c32_5, c32_6, c32_7, c32_8, h0]
      have h1 : ar.isEmpty = true := by
        cases ar with
        | nil => rfl
        | cons a r => simp at h0; omega
      refine RunV.to (var_ok nm (by omega) _) ?_
      cases hv : varB nm
      · simp -implicitDefEqProofs (maxDischargeDepth := 15) only [↓reduceIte, Yr, Ys, Yt, Yu, Yv, Yw, Yx, Yy, Yz, Wa, Wb, Wc, Wd, We, Wf, Wg, Wh, Wi, Wj, Wk, Wl, Wm, Wn, Wo, Wp, Wq, Wr, Ws, Wt, Wu, opA, Wv, Ww, Wx, Wy, Wz, Va, Za, Zb, List.replicate, Zc, Zd, Ze, Vb, Vc, Vd, Ve, Vf, AV.cells, Vg, Vh, Vi, Vj, AState.set_next, AState.kill_next, Vk, Vl, Vm, Vn, Vo, Vp, Vq, Vr, Vs, Vt, partA, Zf, Zg, Zh, Zi, if_true, if_false, Nat.reduceAdd, Nat.reduceLeDiff, Nat.reduceSub, Zj, Nat.zero_le, Zk, Zl, Zm, Zn, Zo, Zp, Zq, Zr, Zs, Zt, binA, eqA, kEq, nilEq, fillA, putL, allOne, Zu, Zv, AV.one, Zw, Zx, Zy, and_self, and_true, true_and, lenA, firstA, EndOk, resultA, oneOf, Zz, Ya, Yb, Yc, Yd, Ye, reduceCtorEq, Yf, Yg, natOf, upTo, bMax, bHigh, bLow, boundsA, evO, Yh, Yi, againOk, Vu, Vv, Vw, Yj, Yk, eq_self, Yl, Ym, Yn, setPs, or_true, true_or, false_or, or_false, ne_eq, Yo, Vx, Vy, Yp, Yq, i_syntax_term, c32_0, c32_1, c32_2, c32_3, c32_4, c32_5, c32_6, c32_7, c32_8, h0, show ((0 : Int) == 1) = false from rfl]
        refine ⟨?_, hE⟩
        simp only [T.right, hv]; simp
      · simp -implicitDefEqProofs (maxDischargeDepth := 15) only [↓reduceIte, Yr, Ys, Yt, Yu, Yv, Yw, Yx, Yy, Yz, Wa, Wb, Wc, Wd, We, Wf, Wg, Wh, Wi, Wj, Wk, Wl, Wm, Wn, Wo, Wp, Wq, Wr, Ws, Wt, Wu, opA, Wv, Ww, Wx, Wy, Wz, Va, Za, Zb, List.replicate, Zc, Zd, Ze, Vb, Vc, Vd, Ve, Vf, AV.cells, Vg, Vh, Vi, Vj, AState.set_next, AState.kill_next, Vk, Vl, Vm, Vn, Vo, Vp, Vq, Vr, Vs, Vt, partA, Zf, Zg, Zh, Zi, if_true, if_false, Nat.reduceAdd, Nat.reduceLeDiff, Nat.reduceSub, Zj, Nat.zero_le, Zk, Zl, Zm, Zn, Zo, Zp, Zq, Zr, Zs, Zt, binA, eqA, kEq, nilEq, fillA, putL, allOne, Zu, Zv, AV.one, Zw, Zx, Zy, and_self, and_true, true_and, lenA, firstA, EndOk, resultA, oneOf, Zz, Ya, Yb, Yc, Yd, Ye, reduceCtorEq, Yf, Yg, natOf, upTo, bMax, bHigh, bLow, boundsA, evO, Yh, Yi, againOk, Vu, Vv, Vw, Yj, Yk, eq_self, Yl, Ym, Yn, setPs, or_true, true_or, false_or, or_false, ne_eq, Yo, Vx, Vy, Yp, Yq, i_syntax_term, c32_0, c32_1, c32_2, c32_3, c32_4, c32_5, c32_6, c32_7, c32_8, h0]
        refine ⟨?_, hE⟩
        simp only [T.right, h1, hv]; simp
end Go.Am
namespace Go.Am
variable {P : Program}
def TrOk (P : Program) : Tr AFunc → (Nat → Nat) → Prop
  | .nil, _ => True
  | .node v l r, φ => (∀ a, v = some a → resF P (φ 0) = some a) ∧ TrOk P l (fun k => φ (2 * k + 1)) ∧ TrOk P r (fun k => φ (2 * k + 2))
theorem trOk_get : ∀ (t : Tr AFunc) (φ : Nat → Nat), TrOk P t φ → ∀ f a, t.get f = some a → resF P (φ f) = some a
  | .nil, φ, _, f, a, h => by simp [Tr.get_nil] at h
  | .node v l r, φ, ⟨h0, hl, hr⟩, 0, a, h => h0 a (by rw [Tr.get_zero] at h; exact h)
  | .node v l r, φ, ⟨h0, hl, hr⟩, f + 1, a, h => by
    rw [Tr.get_succ] at h
    by_cases e : f % 2 = 0
    · rw [if_pos e] at h
      have := trOk_get l _ hl _ _ h
      simpa [show 2 * (f / 2) + 1 = f + 1 by omega] using this
    · rw [if_neg e] at h
      have := trOk_get r _ hr _ _ h
      simpa [show 2 * (f / 2) + 2 = f + 1 by omega] using this
end Go.Am
namespace Go.Am
open Go.Proofs
set_option maxRecDepth 100000
noncomputable def tabT : Tr AFunc := (.node none (.node none (.node (some i_law41_DescribeOutline) (.node (some i_describe_Form) (.node (some i_law41_DescribeOutlineS1) (.node (some i_law30_bound) (.node (some i_describe_patterns) (.node (some i_describe_name) (.node (some i_slices_Clone_int) .nil .nil) .nil) .nil) (.node (some i_syntax_Depth) (.node (some i_slices_IndexFunc_int) .nil .nil) (.node (some i_finite_mapped_api_Bind_string) .nil .nil))) (.node (some i_describe_reader_form) (.node (some i_describe_beginS3) (.node none (.node (some i_trace_rising) .nil .nil) .nil) (.node (some i_holds_structures_valid) .nil .nil)) (.node (some i_stringslite_Clone) .nil .nil))) (.node (some i_describe_Proof) (.node (some i_strconv_toError) (.node (some i_strconv_rangeError) (.node (some i_syntax_none) .nil .nil) (.node (some i_slices_Equal_api_Fact) .nil .nil)) (.node (some i_utf8_RuneCountInString) (.node (some i_slices_IndexFunc_byte) .nil .nil) (.node (some i_slices_IndexFunc_api_Fact) .nil .nil))) (.node (some i_describe_fact) (.node (some i_syntax_Predicate) (.node (some i_bits_TrailingZeros) .nil .nil) (.node (some i_slices_ContainsFunc_api_Func) .nil .nil)) (.node (some i_describe_reader_wordS1) .nil (.node (some i_frame_relation) .nil .nil))))) (.node (some i_strings_TrimPrefix) (.node (some i_law41_bound) (.node (some i_describe_text) (.node (some i_strings_Index) (.node (some i_strconv_FormatBool_131) (.node (some i_frame_missing) .nil .nil) .nil) (.node (some i_holds_valuations_valid) .nil .nil)) (.node (some i_slices_ContainsFunc_api_Term) (.node (some i_syntax_FunctionS1) .nil .nil) (.node (some i_finite_Sig_soundS1) .nil .nil))) (.node (some i_describe_ProofS1) (.node (some i_describe_beginS5S1) (.node (some i_strconv_log10Pow2) .nil .nil) (.node (some i_finite_ValidS1) .nil .nil)) (.node (some i_strconv_formatBase10) .nil .nil))) (.node (some i_kit_SameTexts) (.node (some i_strings_Builder_Grow) (.node (some i_strings_Builder_copyCheck) (.node (some i_syntax_meta) .nil .nil) .nil) (.node none .nil (.node (some i_cmp_Compare_int) .nil .nil))) (.node (some i_syntax_fits) (.node (some i_holds_of) (.node (some i_syntax_small) .nil .nil) (.node (some i_finite_mapped_api_Fact_syntax_Symbol) .nil .nil)) (.node (some i_syntax_capital) .nil (.node (some i_frame_ValidS1) .nil .nil)))))) (.node (some i_law30_Built) (.node (some i_strings_Cut) (.node (some i_law41_variable) (.node (some i_describe_OutlineS1) (.node (some i_strings_explode) (.node (some i_describe_fitsS2) (.node (some i_slices_Index_int) .nil .nil) .nil) .nil) (.node (some i_syntax_term) (.node (some i_syntax_every) .nil .nil) (.node (some i_finite_rising_syntax_Symbol) .nil .nil))) (.node (some i_describe_join) (.node (some i_describe_reader_word) (.node (some i_strconv_lower) (.node (some i_trace_ValidS1) .nil .nil) .nil) (.node (some i_finite_signature) .nil .nil)) (.node (some i_strconv_small) .nil (.node (some i_holds_worlds_ops) .nil .nil)))) (.node (some i_law41_leaf) (.node (some i_strconv_Itoa_41) (.node (some i_strconv_bitSizeError) (.node (some i_syntax_Function) .nil .nil) .nil) (.node none (.node (some i_strings_indexFunc) .nil .nil) (.node (some i_slices_IndexFunc_api_Bind) .nil .nil))) (.node (some i_law30_variable) (.node (some i_slices_Grow_api_Form) (.node (some i_slices_ContainsFunc_byte) .nil .nil) (.node (some i_slices_ContainsFunc_api_Bind) .nil .nil)) (.node (some i_syntax_VariableS1) .nil (.node (some i_frame_names) .nil .nil))))) (.node (some i_strings_HasPrefix) (.node (some i_describe_Read) (.node (some i_stringslite_Cut) (.node (some i_strconv_ParseInt) (.node (some i_syntax_terms) (.node (some i_frame_missingS2) .nil .nil) .nil) (.node (some i_holds_names) .nil .nil)) (.node (some i_slices_ContainsFunc_api_Form) (.node (some i_bits_TrailingZeros64) .nil .nil) (.node (some i_finite_rising_string) .nil .nil))) (.node (some i_holds_Valid) (.node (some i_describe_beginS6) (.node (some i_strconv_bool2_int) .nil .nil) (.node (some i_finite_ValidS2) .nil .nil)) (.node none .nil (.node (some i_frame_Valid) .nil .nil)))) (.node (some i_law30_term) (.node (some i_strings_Builder_String) (.node (some i_describe_beginS1) (.node (some i_slices_IndexFunc_api_Form) (.node (some i_holds_traces_valid) .nil .nil) .nil) .nil) (.node (some i_bytealg_IndexRabinKarp_string) .nil (.node (some i_cmp_isNaN_int) .nil .nil))) (.node (some i_describe_term) (.node (some i_strconv_FormatBool) (.node (some i_describe_nameS1) .nil .nil) (.node (some i_finite_mapped_api_Func_syntax_Symbol) .nil .nil)) (.node (some i_describe_reader_term) .nil (.node (some i_frame_masks) .nil .nil))))))) (.node (some i_gosem_cut_init) (.node (some i_law41_awake) (.node (some i_strings_Split) (.node (some i_law41_atom) (.node (some i_syntax_Right) (.node (some i_describe_headS1) (.node (some i_slices_ContainsFunc_int) (.node (some i_frame_relationS1) .nil .nil) .nil) (.node (some i_holds_valuations_ops) .nil .nil)) (.node (some i_syntax_rows) (.node (some i_syntax_allS1) .nil .nil) (.node (some i_finite_signatureS3) .nil .nil))) (.node (some i_slices_Concat_api_Form) (.node (some i_describe_beginS4) (.node (some i_bytealg_hashStr_string) (.node (some i_trace_names) .nil .nil) .nil) (.node (some i_finite_Valid) .nil .nil)) (.node (some i_errors_New) .nil .nil))) (.node (some i_law41_step) (.node (some i_stringslite_TrimPrefix) (.node (some i_strconv_baseError) (.node (some i_syntax_ofForms) .nil .nil) (.node (some i_truth_check) .nil .nil)) (.node (some i_utf8_DecodeRuneInString) (.node (some i_strings_IndexFunc) .nil .nil) (.node (some i_slices_IndexFunc_api_Func) .nil .nil))) (.node (some i_describe_bits) (.node (some i_describe_reader_args) (.node (some i_slices_Contains_string) .nil .nil) (.node (some i_finite_ValidS3) .nil .nil)) (.node (some i_syntax_name) .nil (.node (some i_frame_rising) .nil .nil))))) (.node (some i_strconv_Itoa) (.node (some i_law41_apply) (.node (some i_strings_genSplit) (.node (some i_stringslite_Index) (.node (some i_syntax_all) (.node (some i_frame_missingS1) .nil .nil) .nil) (.node (some i_truth_Model) .nil .nil)) (.node (some i_syntax_shapeS1) (.node (some i_bits_TrailingZeros32) .nil .nil) (.node (some i_finite_Sig_soundS2) .nil .nil))) (.node (some i_describe_list) (.node (some i_syntax_Variable) (.node (some i_bits_Len64) .nil .nil) (.node (some i_slices_ContainsFunc_api_Fact) .nil .nil)) (.node (some i_strconv_formatBits) .nil (.node (some i_holds_worlds_valid) .nil .nil)))) (.node (some i_law30_atom) (.node (some i_strings_Builder_WriteString) (.node (some i_strings_Builder_grow) (.node (some i_slices_IndexFunc_api_Term) .nil .nil) (.node (some i_holds_structures_ops) .nil .nil)) (.node (some i_bytealg_Cutover) .nil (.node (some i_cmp_isNaN_string) .nil .nil))) (.node (some i_syntax_shape) (.node (some i_describe_pairs) (.node (some i_describe_reader_termS1) (.node (some i_gosem_cut_vars) .nil .nil) .nil) (.node (some i_finite_signatureS1) .nil .nil)) (.node (some i_syntax_letter) .nil (.node (some i_slices_Contains_int) .nil .nil)))))) (.node (some i_describe_Outline) (.node (some i_strconv_Atoi) (.node (some i_law41_join) (.node (some i_describe_head) (.node (some i_strings_Count) (.node (some i_holds_kinds) (.node (some i_frame_reach) .nil .nil) .nil) .nil) (.node (some i_syntax_ofTerms) (.node (some i_syntax_termsS1) .nil .nil) (.node (some i_finite_bySymbol) .nil .nil))) (.node (some i_describe_whole) (.node (some i_describe_beginS5) (.node (some i_strconv_underscoreOK) .nil .nil) (.node (some i_finite_Sig_sound) .nil .nil)) (.node (some i_strconv_numDigits) .nil .nil))) (.node (some i_describe_Model) (.node (some i_stringslite_HasPrefix) (.node (some i_strconv_FormatInt) (.node (some i_syntax_termS1) (.node (some i_holds_traces_ops) .nil .nil) .nil) .nil) (.node (some i_stringslite_IndexByte) .nil (.node (some i_cmp_Or_int) .nil .nil))) (.node (some i_law30_apply) (.node (some i_describe_fits) (.node (some i_syntax_nameS1) .nil .nil) (.node (some i_finite_ValidS4) .nil .nil)) (.node (some i_syntax_digit) .nil (.node (some i_frame_ordered) .nil .nil))))) (.node none (.node (some i_describe_Claim) (.node (some i_strconv_Atoi_38) (.node (some i_strconv_syntaxError) (.node (some i_syntax_high) (.node (some i_frame_missingS3) .nil .nil) .nil) (.node (some i_holds_valuations_number) .nil .nil)) (.node (some i_syntax_shapeS2) (.node (some i_slices_Index_string) .nil .nil) (.node (some i_cmp_Compare_string) .nil .nil))) (.node (some i_describe_ModelS1) (.node (some i_describe_reader_formS1) (.node (some i_strconv_isPowerOfTwo) .nil .nil) (.node (some i_finite_tuples) .nil .nil)) (.node none .nil (.node (some i_frame_Fits) .nil .nil)))) (.node (some i_law30_join) (.node (some i_describe_begin) (.node (some i_describe_beginS2) (.node (some i_utf8_decodeRuneInStringSlow) (.node (some i_trace_Valid) .nil .nil) .nil) .nil) (.node (some i_strconv_ParseUint) .nil .nil)) (.node (some i_slices_IndexFunc_describe_pattern) (.node (some i_syntax_Nodes) (.node (some i_strings_ContainsFunc) .nil .nil) (.node (some i_finite_signatureS2) .nil .nil)) (.node (some i_describe_fitsS1) .nil (.node (some i_frame_grow) .nil .nil))))))))
theorem tabOk : TrOk Go.Proofs.Tryz.prog tabT id := ⟨(by intro a h; cases h), ⟨(by intro a h; cases h), ⟨(by intro a h; cases h; exact rf_law41_DescribeOutline), ⟨(by intro a h; cases h; exact rf_describe_Form), ⟨(by intro a h; cases h; exact rf_law41_DescribeOutlineS1), ⟨(by intro a h; cases h; exact rf_law30_bound), ⟨(by intro a h; cases h; exact rf_describe_patterns), ⟨(by intro a h; cases h; exact rf_describe_name), ⟨(by intro a h; cases h; exact rf_slices_Clone_int), trivial, trivial⟩, trivial⟩, trivial⟩, ⟨(by intro a h; cases h; exact rf_syntax_Depth), ⟨(by intro a h; cases h; exact rf_slices_IndexFunc_int), trivial, trivial⟩, ⟨(by intro a h; cases h; exact rf_finite_mapped_api_Bind_string), trivial, trivial⟩⟩⟩, ⟨(by intro a h; cases h; exact rf_describe_reader_form), ⟨(by intro a h; cases h; exact rf_describe_beginS3), ⟨(by intro a h; cases h), ⟨(by intro a h; cases h; exact rf_trace_rising), trivial, trivial⟩, trivial⟩, ⟨(by intro a h; cases h; exact rf_holds_structures_valid), trivial, trivial⟩⟩, ⟨(by intro a h; cases h; exact rf_stringslite_Clone), trivial, trivial⟩⟩⟩, ⟨(by intro a h; cases h; exact rf_describe_Proof), ⟨(by intro a h; cases h; exact rf_strconv_toError), ⟨(by intro a h; cases h; exact rf_strconv_rangeError), ⟨(by intro a h; cases h; exact rf_syntax_none), trivial, trivial⟩, ⟨(by intro a h; cases h; exact rf_slices_Equal_api_Fact), trivial, trivial⟩⟩, ⟨(by intro a h; cases h; exact rf_utf8_RuneCountInString), ⟨(by intro a h; cases h; exact rf_slices_IndexFunc_byte), trivial, trivial⟩, ⟨(by intro a h; cases h; exact rf_slices_IndexFunc_api_Fact), trivial, trivial⟩⟩⟩, ⟨(by intro a h; cases h; exact rf_describe_fact), ⟨(by intro a h; cases h; exact rf_syntax_Predicate), ⟨(by intro a h; cases h; exact rf_bits_TrailingZeros), trivial, trivial⟩, ⟨(by intro a h; cases h; exact rf_slices_ContainsFunc_api_Func), trivial, trivial⟩⟩, ⟨(by intro a h; cases h; exact rf_describe_reader_wordS1), trivial, ⟨(by intro a h; cases h; exact rf_frame_relation), trivial, trivial⟩⟩⟩⟩⟩, ⟨(by intro a h; cases h; exact rf_strings_TrimPrefix), ⟨(by intro a h; cases h; exact rf_law41_bound), ⟨(by intro a h; cases h; exact rf_describe_text), ⟨(by intro a h; cases h; exact rf_strings_Index), ⟨(by intro a h; cases h; exact rf_strconv_FormatBool_131), ⟨(by intro a h; cases h; exact rf_frame_missing), trivial, trivial⟩, trivial⟩, ⟨(by intro a h; cases h; exact rf_holds_valuations_valid), trivial, trivial⟩⟩, ⟨(by intro a h; cases h; exact rf_slices_ContainsFunc_api_Term), ⟨(by intro a h; cases h; exact rf_syntax_FunctionS1), trivial, trivial⟩, ⟨(by intro a h; cases h; exact rf_finite_Sig_soundS1), trivial, trivial⟩⟩⟩, ⟨(by intro a h; cases h; exact rf_describe_ProofS1), ⟨(by intro a h; cases h; exact rf_describe_beginS5S1), ⟨(by intro a h; cases h; exact rf_strconv_log10Pow2), trivial, trivial⟩, ⟨(by intro a h; cases h; exact rf_finite_ValidS1), trivial, trivial⟩⟩, ⟨(by intro a h; cases h; exact rf_strconv_formatBase10), trivial, trivial⟩⟩⟩, ⟨(by intro a h; cases h; exact rf_kit_SameTexts), ⟨(by intro a h; cases h; exact rf_strings_Builder_Grow), ⟨(by intro a h; cases h; exact rf_strings_Builder_copyCheck), ⟨(by intro a h; cases h; exact rf_syntax_meta), trivial, trivial⟩, trivial⟩, ⟨(by intro a h; cases h), trivial, ⟨(by intro a h; cases h; exact rf_cmp_Compare_int), trivial, trivial⟩⟩⟩, ⟨(by intro a h; cases h; exact rf_syntax_fits), ⟨(by intro a h; cases h; exact rf_holds_of), ⟨(by intro a h; cases h; exact rf_syntax_small), trivial, trivial⟩, ⟨(by intro a h; cases h; exact rf_finite_mapped_api_Fact_syntax_Symbol), trivial, trivial⟩⟩, ⟨(by intro a h; cases h; exact rf_syntax_capital), trivial, ⟨(by intro a h; cases h; exact rf_frame_ValidS1), trivial, trivial⟩⟩⟩⟩⟩⟩, ⟨(by intro a h; cases h; exact rf_law30_Built), ⟨(by intro a h; cases h; exact rf_strings_Cut), ⟨(by intro a h; cases h; exact rf_law41_variable), ⟨(by intro a h; cases h; exact rf_describe_OutlineS1), ⟨(by intro a h; cases h; exact rf_strings_explode), ⟨(by intro a h; cases h; exact rf_describe_fitsS2), ⟨(by intro a h; cases h; exact rf_slices_Index_int), trivial, trivial⟩, trivial⟩, trivial⟩, ⟨(by intro a h; cases h; exact rf_syntax_term), ⟨(by intro a h; cases h; exact rf_syntax_every), trivial, trivial⟩, ⟨(by intro a h; cases h; exact rf_finite_rising_syntax_Symbol), trivial, trivial⟩⟩⟩, ⟨(by intro a h; cases h; exact rf_describe_join), ⟨(by intro a h; cases h; exact rf_describe_reader_word), ⟨(by intro a h; cases h; exact rf_strconv_lower), ⟨(by intro a h; cases h; exact rf_trace_ValidS1), trivial, trivial⟩, trivial⟩, ⟨(by intro a h; cases h; exact rf_finite_signature), trivial, trivial⟩⟩, ⟨(by intro a h; cases h; exact rf_strconv_small), trivial, ⟨(by intro a h; cases h; exact rf_holds_worlds_ops), trivial, trivial⟩⟩⟩⟩, ⟨(by intro a h; cases h; exact rf_law41_leaf), ⟨(by intro a h; cases h; exact rf_strconv_Itoa_41), ⟨(by intro a h; cases h; exact rf_strconv_bitSizeError), ⟨(by intro a h; cases h; exact rf_syntax_Function), trivial, trivial⟩, trivial⟩, ⟨(by intro a h; cases h), ⟨(by intro a h; cases h; exact rf_strings_indexFunc), trivial, trivial⟩, ⟨(by intro a h; cases h; exact rf_slices_IndexFunc_api_Bind), trivial, trivial⟩⟩⟩, ⟨(by intro a h; cases h; exact rf_law30_variable), ⟨(by intro a h; cases h; exact rf_slices_Grow_api_Form), ⟨(by intro a h; cases h; exact rf_slices_ContainsFunc_byte), trivial, trivial⟩, ⟨(by intro a h; cases h; exact rf_slices_ContainsFunc_api_Bind), trivial, trivial⟩⟩, ⟨(by intro a h; cases h; exact rf_syntax_VariableS1), trivial, ⟨(by intro a h; cases h; exact rf_frame_names), trivial, trivial⟩⟩⟩⟩⟩, ⟨(by intro a h; cases h; exact rf_strings_HasPrefix), ⟨(by intro a h; cases h; exact rf_describe_Read), ⟨(by intro a h; cases h; exact rf_stringslite_Cut), ⟨(by intro a h; cases h; exact rf_strconv_ParseInt), ⟨(by intro a h; cases h; exact rf_syntax_terms), ⟨(by intro a h; cases h; exact rf_frame_missingS2), trivial, trivial⟩, trivial⟩, ⟨(by intro a h; cases h; exact rf_holds_names), trivial, trivial⟩⟩, ⟨(by intro a h; cases h; exact rf_slices_ContainsFunc_api_Form), ⟨(by intro a h; cases h; exact rf_bits_TrailingZeros64), trivial, trivial⟩, ⟨(by intro a h; cases h; exact rf_finite_rising_string), trivial, trivial⟩⟩⟩, ⟨(by intro a h; cases h; exact rf_holds_Valid), ⟨(by intro a h; cases h; exact rf_describe_beginS6), ⟨(by intro a h; cases h; exact rf_strconv_bool2_int), trivial, trivial⟩, ⟨(by intro a h; cases h; exact rf_finite_ValidS2), trivial, trivial⟩⟩, ⟨(by intro a h; cases h), trivial, ⟨(by intro a h; cases h; exact rf_frame_Valid), trivial, trivial⟩⟩⟩⟩, ⟨(by intro a h; cases h; exact rf_law30_term), ⟨(by intro a h; cases h; exact rf_strings_Builder_String), ⟨(by intro a h; cases h; exact rf_describe_beginS1), ⟨(by intro a h; cases h; exact rf_slices_IndexFunc_api_Form), ⟨(by intro a h; cases h; exact rf_holds_traces_valid), trivial, trivial⟩, trivial⟩, trivial⟩, ⟨(by intro a h; cases h; exact rf_bytealg_IndexRabinKarp_string), trivial, ⟨(by intro a h; cases h; exact rf_cmp_isNaN_int), trivial, trivial⟩⟩⟩, ⟨(by intro a h; cases h; exact rf_describe_term), ⟨(by intro a h; cases h; exact rf_strconv_FormatBool), ⟨(by intro a h; cases h; exact rf_describe_nameS1), trivial, trivial⟩, ⟨(by intro a h; cases h; exact rf_finite_mapped_api_Func_syntax_Symbol), trivial, trivial⟩⟩, ⟨(by intro a h; cases h; exact rf_describe_reader_term), trivial, ⟨(by intro a h; cases h; exact rf_frame_masks), trivial, trivial⟩⟩⟩⟩⟩⟩⟩, ⟨(by intro a h; cases h; exact rf_gosem_cut_init), ⟨(by intro a h; cases h; exact rf_law41_awake), ⟨(by intro a h; cases h; exact rf_strings_Split), ⟨(by intro a h; cases h; exact rf_law41_atom), ⟨(by intro a h; cases h; exact rf_syntax_Right), ⟨(by intro a h; cases h; exact rf_describe_headS1), ⟨(by intro a h; cases h; exact rf_slices_ContainsFunc_int), ⟨(by intro a h; cases h; exact rf_frame_relationS1), trivial, trivial⟩, trivial⟩, ⟨(by intro a h; cases h; exact rf_holds_valuations_ops), trivial, trivial⟩⟩, ⟨(by intro a h; cases h; exact rf_syntax_rows), ⟨(by intro a h; cases h; exact rf_syntax_allS1), trivial, trivial⟩, ⟨(by intro a h; cases h; exact rf_finite_signatureS3), trivial, trivial⟩⟩⟩, ⟨(by intro a h; cases h; exact rf_slices_Concat_api_Form), ⟨(by intro a h; cases h; exact rf_describe_beginS4), ⟨(by intro a h; cases h; exact rf_bytealg_hashStr_string), ⟨(by intro a h; cases h; exact rf_trace_names), trivial, trivial⟩, trivial⟩, ⟨(by intro a h; cases h; exact rf_finite_Valid), trivial, trivial⟩⟩, ⟨(by intro a h; cases h; exact rf_errors_New), trivial, trivial⟩⟩⟩, ⟨(by intro a h; cases h; exact rf_law41_step), ⟨(by intro a h; cases h; exact rf_stringslite_TrimPrefix), ⟨(by intro a h; cases h; exact rf_strconv_baseError), ⟨(by intro a h; cases h; exact rf_syntax_ofForms), trivial, trivial⟩, ⟨(by intro a h; cases h; exact rf_truth_check), trivial, trivial⟩⟩, ⟨(by intro a h; cases h; exact rf_utf8_DecodeRuneInString), ⟨(by intro a h; cases h; exact rf_strings_IndexFunc), trivial, trivial⟩, ⟨(by intro a h; cases h; exact rf_slices_IndexFunc_api_Func), trivial, trivial⟩⟩⟩, ⟨(by intro a h; cases h; exact rf_describe_bits), ⟨(by intro a h; cases h; exact rf_describe_reader_args), ⟨(by intro a h; cases h; exact rf_slices_Contains_string), trivial, trivial⟩, ⟨(by intro a h; cases h; exact rf_finite_ValidS3), trivial, trivial⟩⟩, ⟨(by intro a h; cases h; exact rf_syntax_name), trivial, ⟨(by intro a h; cases h; exact rf_frame_rising), trivial, trivial⟩⟩⟩⟩⟩, ⟨(by intro a h; cases h; exact rf_strconv_Itoa), ⟨(by intro a h; cases h; exact rf_law41_apply), ⟨(by intro a h; cases h; exact rf_strings_genSplit), ⟨(by intro a h; cases h; exact rf_stringslite_Index), ⟨(by intro a h; cases h; exact rf_syntax_all), ⟨(by intro a h; cases h; exact rf_frame_missingS1), trivial, trivial⟩, trivial⟩, ⟨(by intro a h; cases h; exact rf_truth_Model), trivial, trivial⟩⟩, ⟨(by intro a h; cases h; exact rf_syntax_shapeS1), ⟨(by intro a h; cases h; exact rf_bits_TrailingZeros32), trivial, trivial⟩, ⟨(by intro a h; cases h; exact rf_finite_Sig_soundS2), trivial, trivial⟩⟩⟩, ⟨(by intro a h; cases h; exact rf_describe_list), ⟨(by intro a h; cases h; exact rf_syntax_Variable), ⟨(by intro a h; cases h; exact rf_bits_Len64), trivial, trivial⟩, ⟨(by intro a h; cases h; exact rf_slices_ContainsFunc_api_Fact), trivial, trivial⟩⟩, ⟨(by intro a h; cases h; exact rf_strconv_formatBits), trivial, ⟨(by intro a h; cases h; exact rf_holds_worlds_valid), trivial, trivial⟩⟩⟩⟩, ⟨(by intro a h; cases h; exact rf_law30_atom), ⟨(by intro a h; cases h; exact rf_strings_Builder_WriteString), ⟨(by intro a h; cases h; exact rf_strings_Builder_grow), ⟨(by intro a h; cases h; exact rf_slices_IndexFunc_api_Term), trivial, trivial⟩, ⟨(by intro a h; cases h; exact rf_holds_structures_ops), trivial, trivial⟩⟩, ⟨(by intro a h; cases h; exact rf_bytealg_Cutover), trivial, ⟨(by intro a h; cases h; exact rf_cmp_isNaN_string), trivial, trivial⟩⟩⟩, ⟨(by intro a h; cases h; exact rf_syntax_shape), ⟨(by intro a h; cases h; exact rf_describe_pairs), ⟨(by intro a h; cases h; exact rf_describe_reader_termS1), ⟨(by intro a h; cases h; exact rf_gosem_cut_vars), trivial, trivial⟩, trivial⟩, ⟨(by intro a h; cases h; exact rf_finite_signatureS1), trivial, trivial⟩⟩, ⟨(by intro a h; cases h; exact rf_syntax_letter), trivial, ⟨(by intro a h; cases h; exact rf_slices_Contains_int), trivial, trivial⟩⟩⟩⟩⟩⟩, ⟨(by intro a h; cases h; exact rf_describe_Outline), ⟨(by intro a h; cases h; exact rf_strconv_Atoi), ⟨(by intro a h; cases h; exact rf_law41_join), ⟨(by intro a h; cases h; exact rf_describe_head), ⟨(by intro a h; cases h; exact rf_strings_Count), ⟨(by intro a h; cases h; exact rf_holds_kinds), ⟨(by intro a h; cases h; exact rf_frame_reach), trivial, trivial⟩, trivial⟩, trivial⟩, ⟨(by intro a h; cases h; exact rf_syntax_ofTerms), ⟨(by intro a h; cases h; exact rf_syntax_termsS1), trivial, trivial⟩, ⟨(by intro a h; cases h; exact rf_finite_bySymbol), trivial, trivial⟩⟩⟩, ⟨(by intro a h; cases h; exact rf_describe_whole), ⟨(by intro a h; cases h; exact rf_describe_beginS5), ⟨(by intro a h; cases h; exact rf_strconv_underscoreOK), trivial, trivial⟩, ⟨(by intro a h; cases h; exact rf_finite_Sig_sound), trivial, trivial⟩⟩, ⟨(by intro a h; cases h; exact rf_strconv_numDigits), trivial, trivial⟩⟩⟩, ⟨(by intro a h; cases h; exact rf_describe_Model), ⟨(by intro a h; cases h; exact rf_stringslite_HasPrefix), ⟨(by intro a h; cases h; exact rf_strconv_FormatInt), ⟨(by intro a h; cases h; exact rf_syntax_termS1), ⟨(by intro a h; cases h; exact rf_holds_traces_ops), trivial, trivial⟩, trivial⟩, trivial⟩, ⟨(by intro a h; cases h; exact rf_stringslite_IndexByte), trivial, ⟨(by intro a h; cases h; exact rf_cmp_Or_int), trivial, trivial⟩⟩⟩, ⟨(by intro a h; cases h; exact rf_law30_apply), ⟨(by intro a h; cases h; exact rf_describe_fits), ⟨(by intro a h; cases h; exact rf_syntax_nameS1), trivial, trivial⟩, ⟨(by intro a h; cases h; exact rf_finite_ValidS4), trivial, trivial⟩⟩, ⟨(by intro a h; cases h; exact rf_syntax_digit), trivial, ⟨(by intro a h; cases h; exact rf_frame_ordered), trivial, trivial⟩⟩⟩⟩⟩, ⟨(by intro a h; cases h), ⟨(by intro a h; cases h; exact rf_describe_Claim), ⟨(by intro a h; cases h; exact rf_strconv_Atoi_38), ⟨(by intro a h; cases h; exact rf_strconv_syntaxError), ⟨(by intro a h; cases h; exact rf_syntax_high), ⟨(by intro a h; cases h; exact rf_frame_missingS3), trivial, trivial⟩, trivial⟩, ⟨(by intro a h; cases h; exact rf_holds_valuations_number), trivial, trivial⟩⟩, ⟨(by intro a h; cases h; exact rf_syntax_shapeS2), ⟨(by intro a h; cases h; exact rf_slices_Index_string), trivial, trivial⟩, ⟨(by intro a h; cases h; exact rf_cmp_Compare_string), trivial, trivial⟩⟩⟩, ⟨(by intro a h; cases h; exact rf_describe_ModelS1), ⟨(by intro a h; cases h; exact rf_describe_reader_formS1), ⟨(by intro a h; cases h; exact rf_strconv_isPowerOfTwo), trivial, trivial⟩, ⟨(by intro a h; cases h; exact rf_finite_tuples), trivial, trivial⟩⟩, ⟨(by intro a h; cases h), trivial, ⟨(by intro a h; cases h; exact rf_frame_Fits), trivial, trivial⟩⟩⟩⟩, ⟨(by intro a h; cases h; exact rf_law30_join), ⟨(by intro a h; cases h; exact rf_describe_begin), ⟨(by intro a h; cases h; exact rf_describe_beginS2), ⟨(by intro a h; cases h; exact rf_utf8_decodeRuneInStringSlow), ⟨(by intro a h; cases h; exact rf_trace_Valid), trivial, trivial⟩, trivial⟩, trivial⟩, ⟨(by intro a h; cases h; exact rf_strconv_ParseUint), trivial, trivial⟩⟩, ⟨(by intro a h; cases h; exact rf_slices_IndexFunc_describe_pattern), ⟨(by intro a h; cases h; exact rf_syntax_Nodes), ⟨(by intro a h; cases h; exact rf_strings_ContainsFunc), trivial, trivial⟩, ⟨(by intro a h; cases h; exact rf_finite_signatureS2), trivial, trivial⟩⟩, ⟨(by intro a h; cases h; exact rf_describe_fitsS1), trivial, ⟨(by intro a h; cases h; exact rf_frame_grow), trivial, trivial⟩⟩⟩⟩⟩⟩⟩⟩
end Go.Am
namespace Go.Am.Do
mutual
def T.tiny : T → Prop
  | .mk _ n az => n.length ≤ 1 ∧ T.tinys az
def T.tinys : List T → Prop
  | [] => True
  | t :: r => t.tiny ∧ T.tinys r
end
mutual
def F.tiny : F → Prop
  | .mk op n az l => op < 256 ∧ n.length ≤ 1 ∧ T.tinys az ∧ F.tinys l
def F.tinys : List F → Prop
  | [] => True
  | f :: r => f.tiny ∧ F.tinys r
end
theorem tinys_all {l : List F} (h : ∀ f ∈ l, f.tiny) : F.tinys l := by
  induction l with
  | nil => trivial
  | cons f r ih => exact ⟨h f (by simp), ih fun g hg => h g (List.mem_cons_of_mem _ hg)⟩
theorem jn_length (x : Str) (r : List Str) (s : Str) : (jn (x :: r) s).length = x.length + (r.map (fun y => s.length + y.length)).sum := by
  induction r generalizing x with
  | nil => simp [jn_one]
  | cons y r ih => rw [jn_cons2]; simp only [List.length_append, ih, List.map_cons, List.sum_cons]; omega
mutual
theorem T.txt_len : ∀ t : T, t.tiny → t.txt.length + 5 ≤ 16 * t.cnt
  | .mk _ n [], h => by simp only [T.tiny] at h; simp only [T.txt, T.cnt, T.cnts]; omega
  | .mk _ n (a :: az), h => by
    simp only [T.tiny, T.tinys] at h
    have h1 := T.txt_len a h.2.1
    have h2 := T.txts_len az h.2.2
    simp only [T.txt, T.cnt, T.cnts]
    rw [jn_length, jn_and]
    simp only [List.map_cons, List.map_nil, List.sum_cons, List.sum_nil, List.length_append, List.length_cons, List.length_nil]
    omega
theorem T.txts_len : ∀ l : List T, T.tinys l → ((T.txts l).map (sAnd ++ ·)).flatten.length ≤ 16 * T.cnts l
  | [], _ => by simp [T.txts, T.cnts]
  | t :: r, h => by
    simp only [T.tinys] at h
    have h1 := T.txt_len t h.1
    have h2 := T.txts_len r h.2
    simp only [T.txts, T.cnts, List.map_cons, List.flatten_cons, List.length_append, List.length_cons, List.length_nil]
    omega
end
theorem headTxt_len {n : Str} {az : List T} (hn : n.length ≤ 1) (h : T.tinys az) : (headTxt n az).length ≤ 16 * (T.cnts az + 1) := by
  cases az with
  | nil => simp only [headTxt, T.cnts]; omega
  | cons a r =>
    have := T.txt_len (.mk false n (a :: r)) (by simp only [T.tiny]; exact ⟨hn, h⟩)
    simp only [T.txt, T.cnt] at this
    simp only [headTxt, T.txts]
    omega
theorem pat_len (op : Nat) : (pat op).1.length ≤ 11 ∧ (pat op).2.length ≤ 5 := by
  unfold pat
  split
  · rename_i p h
    have := List.mem_of_find?_eq_some h
    have key : ∀ p ∈ pats, p.2.1.length ≤ 11 ∧ p.2.2.length ≤ 5 := by decide
    exact key p this
  · simp
theorem F.head_len {op : Nat} {n : Str} {az : List T} {l : List F} (h : (F.mk op n az l).tiny) : (F.mk op n az l).head.1.length ≤ 16 * (T.cnts az + 1) ∧ (F.mk op n az l).head.2.length ≤ 5 := by
  simp only [F.tiny] at h
  simp only [F.head]
  have hp := pat_len op
  split
  · exact ⟨headTxt_len h.2.1 h.2.2.1, by simp⟩
  · split
    · rw [jn_length]
      simp only [List.map_cons, List.map_nil, List.sum_cons, List.sum_nil, List.length_cons, List.length_nil]
      omega
    · split
      · rw [jn_length]
        simp only [List.map_cons, List.map_nil, List.sum_cons, List.sum_nil, List.length_cons, List.length_nil]
        omega
      · omega
mutual
theorem F.txt_len : ∀ f : F, f.tiny → f.txt.length ≤ 40 * f.nodes
  | .mk op n az [], h => by
    have := F.head_len h
    simp only [F.txt, F.txts, F.nodes, F.nodess]; omega
  | .mk op n az [a], h => by
    have h1 := F.head_len h
    simp only [F.tiny, F.tinys] at h
    have h2 := F.txt_len a h.2.2.2.1
    simp only [F.txt, F.txts, F.nodes, F.nodess]
    rw [jn_length]
    simp only [List.map_cons, List.map_nil, List.sum_cons, List.sum_nil, List.length_cons, List.length_nil]
    omega
  | .mk op n az [a, b], h => by
    have h1 := F.head_len h
    simp only [F.tiny, F.tinys] at h
    have h2 := F.txt_len a h.2.2.2.1
    have h3 := F.txt_len b h.2.2.2.2.1
    simp only [F.txt, F.txts, F.nodes, F.nodess]
    rw [jn_length]
    simp only [List.map_cons, List.map_nil, List.sum_cons, List.sum_nil, List.length_cons, List.length_nil]
    omega
  | .mk op n az (a :: b :: c :: r), h => by
    have := F.head_len h
    simp only [F.txt, F.txts, F.nodes, F.nodess]; omega
end
mutual
theorem F.outl_heads : ∀ (f : F) (n : Nat), f.tiny → ∀ p ∈ f.outl n, p.2.length ≤ 16 * f.nodes ∧ p.1 < n + f.depth
  | .mk op m az l, n, h, p, hp => by
    have h1 := F.head_len h
    have h' := h
    simp only [F.tiny] at h
    simp only [F.outl, List.mem_cons] at hp
    simp only [F.nodes, F.depth]
    rcases hp with rfl | hp
    · exact ⟨by simp only; omega, by simp only; omega⟩
    · have := F.outls_heads l (n + 1) h.2.2.2 p hp
      omega
theorem F.outls_heads : ∀ (l : List F) (n : Nat), F.tinys l → ∀ p ∈ F.outls n l, p.2.length ≤ 16 * F.nodess l ∧ p.1 < n + F.depths l
  | [], n, _, p, hp => by simp [F.outls] at hp
  | f :: r, n, h, p, hp => by
    simp only [F.tinys] at h
    simp only [F.outls, List.mem_append] at hp
    simp only [F.nodess, F.depths]
    rcases hp with hp | hp
    · have := F.outl_heads f n h.1 p hp; omega
    · have := F.outls_heads r n h.2 p hp; omega
end
mutual
theorem F.outl_ws : ∀ (f : F) (n : Nat), f.ok → ∀ p ∈ f.outl n, ∃ ws, ws ≠ [] ∧ Nices ws ∧ p.2 = jn ws sp
  | .mk op m az l, n, h, p, hp => by
    have h' := h
    simp only [F.ok] at h
    simp only [F.outl, List.mem_cons] at hp
    rcases hp with rfl | hp
    · exact ⟨_, F.hws_ne _, F.hws_nice _ h', F.head_ws _⟩
    · exact F.outls_ws l (n + 1) h.1 p hp
theorem F.outls_ws : ∀ (l : List F) (n : Nat), F.oks l → ∀ p ∈ F.outls n l, ∃ ws, ws ≠ [] ∧ Nices ws ∧ p.2 = jn ws sp
  | [], n, _, p, hp => by simp [F.outls] at hp
  | f :: r, n, h, p, hp => by
    simp only [F.oks] at h
    simp only [F.outls, List.mem_append] at hp
    rcases hp with hp | hp
    · exact F.outl_ws f n h.1 p hp
    · exact F.outls_ws r n h.2 p hp
end
theorem bTerm0_tiny (k : Nat) : (bTerm0 k).tiny := by
  unfold bTerm0
  repeat' split
  all_goals simp [tv, tf, T.tiny, T.tinys]
theorem bTerm_tiny (b : Nat) : (bTerm b).tiny := by
  have := bTerm0_tiny (b % 5)
  unfold bTerm
  split
  · simp [tf, T.tiny, T.tinys, this]
  · exact this
theorem bStep_tiny {s : List F} {x : Nat} (h : ∀ f ∈ s, f.tiny) : ∀ f ∈ bStep s x, f.tiny := by
  have push : ∀ f, f.tiny → ∀ g ∈ s ++ [f], g.tiny := fun f hf g hg => by
    rcases List.mem_append.1 hg with q | q
    · exact h g q
    · rw [List.mem_singleton] at q; subst q; exact hf
  have take : ∀ (n : Nat) (f : F), f.tiny → ∀ g ∈ s.take n ++ [f], g.tiny := fun n f hf g hg => by
    rcases List.mem_append.1 hg with q | q
    · exact h g (List.mem_of_mem_take q)
    · rw [List.mem_singleton] at q; subst q; exact hf
  have hd : ∀ n, F.tinys (s.drop n) := fun n => tinys_all fun f hf => h f (List.mem_of_mem_drop hf)
  have h1 := bTerm_tiny (x / 12)
  have h2 := bTerm_tiny (x / 12 / 3)
  unfold bStep
  split
  · exact push _ (by simp [bAtom, F.tiny, T.tinys, F.tinys])
  split
  · exact push _ (by simp [bAtom, F.tiny, T.tinys, F.tinys, h1])
  split
  · exact push _ (by simp [bAtom, F.tiny, T.tinys, F.tinys, h1, h2])
  split
  · exact push _ (by simp [F.tiny, T.tinys, F.tinys])
  split
  · refine take _ _ ?_
    simp only [F.tiny, T.tinys, true_and, List.length_nil, Nat.zero_le]
    exact ⟨by repeat' split
              all_goals omega, hd _⟩
  split
  · refine take _ _ ?_
    simp only [F.tiny, T.tinys, true_and, List.length_nil, Nat.zero_le]
    exact ⟨by repeat' split
              all_goals omega, hd _⟩
  split
  · refine take _ _ ?_
    simp only [F.tiny, T.tinys, true_and, List.length_cons, List.length_nil, Nat.zero_add, Nat.le_refl]
    exact ⟨by omega, hd _⟩
  · exact h
theorem built_tiny (l : List Nat) : (built l).tiny := by
  have key : ∀ (l : List Nat) (s : List F), (∀ f ∈ s, f.tiny) → ∀ f ∈ l.foldl bStep s, f.tiny := by
    intro l
    induction l with
    | nil => intro s h; exact h
    | cons x l ih => intro s h; exact ih _ (bStep_tiny h)
  have h := key (l.take 20) [] (fun _ h => by cases h)
  unfold built
  generalize (l.take 20).foldl bStep [] = s at h
  cases s with
  | nil => simp [F.tiny, T.tinys, F.tinys]
  | cons f r =>
    simp only
    have : ∀ (r : List F) (f : F), f.tiny → (∀ g ∈ r, g.tiny) → (untils f r).tiny := by
      intro r
      induction r with
      | nil => intro f hf _; exact hf
      | cons g r ih =>
        intro f hf hr
        exact ih (.mk 14 [] [] [f, g]) (by simp [F.tiny, T.tinys, F.tinys, hf, hr g (by simp)]) fun x hx => hr x (List.mem_cons_of_mem _ hx)
    exact this r f (h f (by simp)) fun g hg => h g (List.mem_cons_of_mem _ hg)
theorem built_ok' (l : List Nat) : (built l).ok := by
  have h := built_right l
  simp only [F.right, Bool.and_eq_true, decide_eq_true_eq] at h
  exact F.shape_ok _ h.2
theorem built_sizes (l : List Nat) : (built l).nodes ≤ 400 ∧ (built l).depth ≤ 40 := by
  have h := built_right l
  simp only [F.right, Bool.and_eq_true, decide_eq_true_eq] at h
  exact h.1
end Go.Am.Do
namespace Go.Am
open Go.RowKit Go.ChangeShapes Go.WideShapes
theorem RunF.calls {Rs : Code → AC → Prop} {P : Program} {f : Nat} {fn : Func} (hfn : P.funcs[f]? = some fn) (hb : fn.body.isNone = false) (hn : (fn.name == "runtime.NumGoroutine") = false) {args : List AV} {σ : AState} {Q : AV → AState → Prop}
    (h : RunF Rs P f args σ Q) {w0 : World} {ρ : RMap} {D : List Nat × List Nat} {cargs : Array Value} {w : World} (ha : VRelL ρ args cargs.toList) (hS : SRel Rs P w0 ρ D σ w) :
    Calls P f cargs w fun e w' => ∃ cv, e = .returned cv ∧ After Rs P w0 σ.next ρ D Q cv w' := by
  obtain ⟨d, hd, hr⟩ := h w0 ρ D (.func (.func f) #[] #[]) cargs w (by simp only [VRel]; exact ⟨#[], #[], rfl, (fun _ q => by cases q), VRelL.mk_nil, VRelL.mk_nil⟩) ha hS
  have hd' : d = { target := .fn (.func f) #[], args := #[] ++ cargs } := by
    have : (Deferred.ofValue (.func (.func f) #[] #[]) cargs).run P w = .ok { target := .fn (.func f) #[], args := #[] ++ cargs } w := rfl
    rw [this] at hd; injection hd with hd; exact hd.symm
  subst hd'
  have hinv : (invoke (.fn (.func f) #[]) (#[] ++ cargs)).run P w = .ok (.enter f cargs) w := by
    simp only [invoke, callFunc, Sem.run_bind, run_program, Result.andThen_ok, hfn, hn, hb, Bool.false_eq_true, if_false, Sem.run_pure]
    simp
  simp only [hinv, NextOut] at hr
  exact hr
def startA (G : Nat) (gl : Nat → Option (List AV)) (l : List AV) : AState :=
  { get := fun i => if i < G then (gl i).map (fun l => .cells l false) else if i = G then some (.cells l false) else none, next := G + 1 }
theorem SRel.start {Rs : Code → AC → Prop} {P : Program} {w : World} {gl : Nat → Option (List AV)} {l : List AV} {m : Loc} (hG : ∀ g, g < P.globals.size → g < w.heap.size)
    (hgl : ∀ g xs, g < P.globals.size → gl g = some xs → ∀ k x, xs[k]? = some x → ∃ y, w.cell? ⟨g, k, none⟩ = some y ∧ ∀ ρ, VRel ρ x y)
    (hm : m.blk < w.heap.size) (hl : l.length ≤ m.ext) (hc : ∀ k x, l[k]? = some x → ∃ y, w.cell? ⟨m.blk, m.base + k, none⟩ = some y ∧ ∀ ρ, VRel ρ x y) :
    SRel Rs P w (fun i => if i < P.globals.size then some ⟨i, 0, ((gl i).getD []).length⟩ else if i = P.globals.size then some m else none) ([], []) (startA P.globals.size gl l) w where
  below := Below.refl _ _
  dom i hi := by
    have hi' : P.globals.size + 1 ≤ i := hi
    simp [startA, show ¬ i < P.globals.size by omega, show ¬ i = P.globals.size by omega]
  lt i l e := by
    by_cases h : i < P.globals.size
    · rw [if_pos h] at e; cases e; exact hG i h
    · rw [if_neg h] at e
      by_cases h2 : i = P.globals.size
      · rw [if_pos h2] at e; cases e; exact hm
      · rw [if_neg h2] at e; cases e
  blk i b lo e1 e2 := by
    by_cases h : i < P.globals.size
    · rw [if_pos h] at e2; cases e2
      simp only [startA, if_pos h] at e1
      cases hx : gl i with
      | none => rw [hx] at e1; cases e1
      | some xs =>
        rw [hx] at e1
        simp only [Option.map_some, Option.some.injEq] at e1
        subst e1
        refine ⟨by simp, fun k x hk => ?_, fun q => by cases q⟩
        obtain ⟨y, h1, h2⟩ := hgl i xs h hx k x hk
        exact ⟨y, by simpa using h1, h2 _⟩
    · rw [if_neg h] at e2
      simp only [startA, if_neg h] at e1
      by_cases h2 : i = P.globals.size
      · rw [if_pos h2] at e1 e2; cases e2; cases e1
        refine ⟨hl, fun k x hk => ?_, fun q => by cases q⟩
        obtain ⟨y, h1, h2⟩ := hc k x hk
        exact ⟨y, h1, h2 _⟩
      · rw [if_neg h2] at e2; cases e2
  sep i j b c l1 l2 hij e1 e2 r1 r2 := by
    have key : ∀ (i : Nat) (b : ABlk), (startA P.globals.size gl l).get i = some b → b.isCells = true ∧ b.wr = false := by
      intro i b e
      simp only [startA] at e
      by_cases h : i < P.globals.size
      · rw [if_pos h] at e
        cases hx : gl i with
        | none => rw [hx] at e; cases e
        | some xs => rw [hx] at e; simp only [Option.map_some, Option.some.injEq] at e; subst e; exact ⟨rfl, rfl⟩
      · rw [if_neg h] at e
        by_cases h2 : i = P.globals.size
        · rw [if_pos h2] at e; cases e; exact ⟨rfl, rfl⟩
        · rw [if_neg h2] at e; cases e
    obtain ⟨a1, a2⟩ := key i b e1
    obtain ⟨b1, b2⟩ := key j c e2
    exact .inr ⟨a1, b1, .inl ⟨a2, b2⟩⟩
  defs d hd := by cases hd
  nodup := List.nodup_nil
  loops d hd := by cases hd
  glob g hg := ⟨_, if_pos hg, rfl, rfl⟩
theorem start_ints {H : Type} {enc : TypeId × Value → H} {P : Program} {W : World} {t e : TypeId} {k : IntKind} {base : Nat} {v : Value} {d : DataW H} {p : List MemPlace} (ht : P.underlying t = some (.slice e)) (he : P.underlying e = some (.int k)) (hc : P.cellsOf e = 1)
    (hG : 0 < W.heap.size) (hval : Value.okWide P W .any base t v) (h : DataW.Trod enc P W 0 (fun _ => true) true t v d p) :
    ∃ (o : Option (Nat × Nat)) (len : Nat) (zs : List Int) (m : Loc), (o = none ∧ len = 0 ∨ o = some (P.globals.size, 0)) ∧ m.blk < W.heap.size ∧ (zs.map (AV.int k)).length ≤ m.ext ∧ len ≤ zs.length ∧
      (∀ j x, (zs.map (AV.int k))[j]? = some x → ∃ y, W.cell? ⟨m.blk, m.base + j, none⟩ = some y ∧ ∀ ρ, VRel ρ x y) ∧ (∀ z ∈ zs, k.min ≤ z ∧ z ≤ k.max) ∧
      ∀ ρ : RMap, ρ P.globals.size = some m → VRel ρ (.slice o len none 1) v := by
  obtain ⟨a1, len, cap, rfl⟩ := okWide_slice ht hval
  obtain ⟨fuel, hf⟩ := h
  rcases open_ints ht he hc hf with ⟨hcs, hx⟩ | ⟨a, len', cap', zs, hcs, _, hl, hm, hz, hx, hcell, hwz⟩
  · simp [Value.cells] at hcs
    obtain ⟨rfl, rfl, rfl⟩ := hcs
    exact ⟨none, 0, [], ⟨0, 0, 0⟩, .inl ⟨rfl, rfl⟩, hG, Nat.le_refl _, Nat.le_refl _, (fun j x q => by simp at q), (fun z hz => by cases hz), (fun ρ _ => by simp [VRel, SlRel])⟩
  · simp [Value.cells] at hcs
    obtain ⟨rfl, rfl, rfl⟩ := hcs
    simp only [if_true] at hz
    have hhas : P.cellsOf e = 1 ∧ a.spot = none ∧ a.block < W.heap.size := by
      unfold Value.okWide at hval
      simp only [ht] at hval
      unfold Cell.okWide at hval
      simp only [ht] at hval
      unfold Cell.ok at hval
      simp only [ht] at hval
      obtain ⟨_, _, _, h2, row, cells, h3, _⟩ := hval
      refine ⟨hc, h2, ?_⟩
      rcases Nat.lt_or_ge a.block W.heap.size with q | q
      · exact q
      · exfalso
        unfold World.shape? at h3
        rw [Array.getElem?_eq_none q] at h3
        simp at h3
    obtain ⟨_, hspot, hblk⟩ := hhas
    obtain ⟨b, off, spot⟩ := a
    simp only at hspot hblk
    subst hspot
    refine ⟨some (P.globals.size, 0), len, zs, ⟨b, off, cap⟩, .inr rfl, hblk, by simp [hz], by omega, fun j x hj => ?_, fun z hz' => ?_, fun ρ hρ => ?_⟩
    · rw [List.getElem?_map, Option.map_eq_some_iff] at hj
      obtain ⟨z, hj, rfl⟩ := hj
      have hlt : j < zs.length := by
        rcases Nat.lt_or_ge j zs.length with q | q
        · exact q
        · rw [List.getElem?_eq_none q] at hj; cases hj
      refine ⟨.int k z, ?_, fun ρ => VRel.int⟩
      have := hcell j hlt
      rw [show zs.getD j 0 = z by simp [List.getD, hj]] at this
      rw [Addr.add] at this
      split at this
      · rename_i q; subst q; exact this
      · exact this
    · simpa [Lit.wf] using hwz z hz'
    · simp only [VRel, SlRel]
      exact ⟨⟨b, off, cap⟩, ⟨b, off, none⟩, cap, hρ, rfl, rfl, .inr ⟨rfl, rfl⟩, hl, .inr (by show 0 + cap * 1 ≤ cap; omega), (fun c q => by cases q)⟩
theorem glob_lt {P : Program} {W : World} (h : W.ShapedOpen P) (hk : ((List.range P.globals.size).all fun g => (((begin P (fun _ _ => 0) default).world.heap[g]?).bind Obj.row?).isSome) = true) : ∀ g, g < P.globals.size → g < W.heap.size := fun g hg => by
  have h1 := List.all_eq_true.1 hk g (by simpa using hg)
  obtain ⟨⟨zero, t⟩, h2⟩ := Option.isSome_iff_exists.1 h1
  obtain ⟨cs, hh, _, _⟩ := h.1 g zero t hg h2
  exact (Array.getElem?_eq_some_iff.1 hh).1
theorem int_of_shape {P : Program} {w : World} {g : Nat} {t : TypeId} {k : IntKind} (h : w.ShapedOpen P) (hg : g < P.globals.size)
    (h0 : (((begin P (fun _ _ => 0) default).world.heap[g]?).bind Obj.row?).map (fun x => (x.1.size, x.2)) = some (1, t))
    (hb : P.buildable t = true) (hc : P.cellTypes P.depth t = some [t]) (hu : P.underlying t = some (.int k)) : ∃ n, w.cell? ⟨g, 0, none⟩ = some (.int k n) := by
  obtain ⟨⟨zero, t'⟩, h00, h1⟩ := Option.map_eq_some_iff.1 h0
  simp only [Prod.mk.injEq] at h1
  obtain ⟨hz, rfl⟩ := h1
  obtain ⟨cs, hh, hs, hr⟩ := h.1 g zero t' hg h00
  obtain ⟨ts, hts, _, hall⟩ := hr hb
  rw [hc] at hts
  cases hts
  have h1 : 0 < cs.size := by omega
  obtain ⟨u, hu', hok⟩ := hall 0 cs[0] (by simp [h1])
  have : u = t' := by simpa using hu'.symm
  subst this
  have hcell : w.cell? ⟨g, 0, none⟩ = some cs[0] := by simp [World.cell?, hh, h1]
  rw [hcell]
  unfold Cell.ok at hok
  rw [hu] at hok
  cases hv : cs[0] <;> rw [hv] at hok <;> first | (obtain ⟨rfl, _⟩ := hok; exact ⟨_, rfl⟩) | simp at hok
end Go.Am
