/-
  A PART of the proof: OrW4, OrW5, OrW6, OrW7, AmTree, OrTab, DoSmall, DoProved, AmLoop, DoOrder, DoOrder2, DoOrder3, AmLift.
-/
import Derived.Test.YtnpfcgeikgbkbaaGreatDoorT04
import Derived.Test.YtnpfcgeikgbkbaaGreatDoorT02
import Derived.Test.YtnpfcgeikgbkbaaGreatDoorT03
import Derived.Lib.IndexMore
import Derived.Carry
import Derived.ChangeSlices
import Derived.ChangeShapes
import Derived.WideShapes
set_option linter.unusedSimpArgs false
set_option linter.unusedVariables false
namespace Go.Am
open Go.RowKit Go.Proofs Do
set_option maxRecDepth 100000
def SubC (g h : Mem) : Prop := ∀ i l w, g i = some (.cells l w) → h i = some (.cells l w)
theorem Sub.c {g h : Mem} (s : Sub g h) : SubC g h := fun i l w e => s i _ e
mutual
theorem DAt.subC {g h : Mem} (s : SubC g h) : ∀ (d : DV) (v : AV), DAt g d v → DAt h d v
  | .int .., _, e | .bool _, _, e | .str _, _, e => by simpa [DAt] using e
  | .sl sz n cs, v, e => by
    simp only [DAt] at e ⊢
    obtain ⟨o, c, sz', hv, h1, h2, h3⟩ := e
    refine ⟨o, c, sz', hv, h1, h2.imp_right fun ⟨l, a, b⟩ => ⟨l, ?_, DAtL.subC s cs l b⟩, h3⟩
    unfold cellsAt at a ⊢
    cases o with
    | none => cases a
    | some p =>
      obtain ⟨i, off⟩ := p
      simp only at a ⊢
      split at a
      · rename_i hg; simp only [s _ _ _ hg]; exact a
      · cases a
theorem DAtL.subC {g h : Mem} (s : SubC g h) : ∀ (ds : List DV) (l : List AV), DAtL g ds l → DAtL h ds l
  | [], _, e => by simpa [DAtL] using e
  | d :: ds, l, e => by
    simp only [DAtL] at e ⊢
    obtain ⟨v, r, hl, a, b⟩ := e
    exact ⟨v, r, hl, DAt.subC s d v a, DAtL.subC s ds r b⟩
end
theorem subC_set {σ : AState} {i : Nat} {b : ABlk} (h : ∀ l w, σ.get i ≠ some (.cells l w)) : SubC σ.get (σ.set i b).get := fun j l w e => by
  rw [Vl (fun q => by subst q; exact h _ _ e)]; exact e
def TySt {S : Type} (St : S → AState → Prop) (lp b2 y : Nat) (ts0 : List AV) (s : S) (σ : AState) : Prop :=
  St s σ ∧ σ.get lp = some (.loop .ready none ts0 [19] c73_2 c73_6) ∧ σ.get b2 = some (.cells [.yieldf y] true)
theorem TySt.mk {S : Type} {St : S → AState → Prop} {lp b2 y : Nat} {ts0 : List AV} {s : S} {σ : AState} (h1 : St s σ) (h2 : σ.get lp = some (.loop .ready none ts0 [19] c73_2 c73_6)) (h3 : σ.get b2 = some (.cells [.yieldf y] true)) : TySt St lp b2 y ts0 s σ := ⟨h1, h2, h3⟩
def TyOwn (Own : Nat → Prop) (lp b2 : Nat) (i : Nat) : Prop := Own i ∨ i = lp ∨ i = b2
theorem tyIter {S : Type} {St : S → AState → Prop} {Own : Nat → Prop} {lp b2 y : Nat} {ts0 : List AV} (hI : Iter St Own) : Iter (TySt St lp b2 y ts0) (TyOwn Own lp b2) where
  own s σ i h k := by
    rcases k with k | rfl | rfl
    · exact hI.own s σ i h.1 k
    · exact ⟨_, h.2.1⟩
    · exact ⟨_, h.2.2⟩
  frame s σ σ' h k := ⟨hI.frame s σ σ' h.1 fun i hi => k i (.inl hi), by rw [k lp (.inr (.inl rfl))]; exact h.2.1, by rw [k b2 (.inr (.inr rfl))]; exact h.2.2⟩
theorem termsY_ok {S : Type} {St : S → AState → Prop} {step : S → T → S} {Own : Nat → Prop} {y lp b2 : Nat} (hI : Iter St Own) (hy : YT' St step Own (.yieldf y)) (hlp : ¬ Own lp) (hb2o : ¬ Own b2) (hne : b2 ≠ lp) {j0 j1 j3 j4 j5 j6 j7 j8 j9 j10 j11 j12 j13 j14 j15 j16 j17 j18 j19 j20 j21 j22 j23 j24 : AV} :
    YT' (TySt St lp b2 y [j0, j1, .ptr (some (b2, 0)), j3, j4, j5, j6, j7, j8, j9, j10, j11, j12, j13, j14, j15, j16, j17, j18, j19, j20, j21, j22, j23, j24]) step (TyOwn Own lp b2) (.yieldf lp) := by
  rintro s σ g xs t ht ⟨hS, hl, hb2⟩ hW hg hfree hD
  refine runY_intro hmx hl rfl ?_
  have hll := hW.lt hl
  have hbl := hW.lt hb2
  obtain ⟨v, nm, ar⟩ := t
  have hD2 := hD
  obtain ⟨o1, c1, z1, rfl, hA⟩ := T.cells hD
  simp -implicitDefEqProofs (maxDischargeDepth := 15) only [↓reduceIte, Yr, Ys, Yt, Wj, opA, Wv, Wx, Wy, Wz, Va, Za, Zb, Zd, Ze, Vb, Vc, Vd, Ve, AV.cells, Vg, Vh, Vn, Zf, Zg, Nat.reduceAdd, Zj, Zk, Zn, Zp, Zs, putL, allOne, Zu, Zv, AV.one, Zy, and_self, true_and, eq_self, setPs, c73_2, hll]
  refine ⟨_, _, _, _, _, hl, ?_⟩
  generalize hσ3 : (σ.push (.cells [.bool v, .str nm, .slice o1 ar.length c1 z1] true)).set lp (.loop .busy none [j0, j1, .ptr (some (b2, 0)), j3, j4, j5, j6, j7, j8, j9, j10, j11, j12, j13, j14, j15, j16, j17, j18, j19, j20, j21, j22, j23, j24] [19] c73_2 c73_6) = σ3
  have hkeep : ∀ i b, i ≠ lp → σ.get i = some b → σ3.get i = some b := fun i b hi e => by
    rw [← hσ3, Vl hi, Vh (hW.lt e)]; exact e
  have hW3 : σ3.Wf := by rw [← hσ3]; exact (hW.push _).set (Vj hll) _
  have hlp3 : σ3.get lp = some (.loop .busy none [j0, j1, .ptr (some (b2, 0)), j3, j4, j5, j6, j7, j8, j9, j10, j11, j12, j13, j14, j15, j16, j17, j18, j19, j20, j21, j22, j23, j24] [19] c73_2 c73_6) := by rw [← hσ3, Vk]
  have hnx : σ3.next = σ.next + 1 := by rw [← hσ3]; rfl
  have h53 : σ3.get σ.next = some (.cells [.bool v, .str nm, .slice o1 ar.length c1 z1] true) := by rw [← hσ3, Vl (by omega), Vg]
  have hS3 : St s σ3 := hI.frame s σ _ hS fun i hi => by
    obtain ⟨b, hb⟩ := hI.own s σ i hS hi
    rw [hb]; exact hkeep i b (fun q => hlp (q ▸ hi)) hb
  have hg3 : Sub g σ3.get := fun i b e => hkeep i b (fun q => hfree i b e (.inr (.inl q))) (hg i b e)
  have hb23 := hkeep b2 _ hne hb2
  simp -implicitDefEqProofs (maxDischargeDepth := 15) only [↓reduceIte, Ys, Yt, Wb, Wj, Wk, Wm, opA, Wv, Wx, Wy, Wz, Za, Zb, Vb, partA, Zf, Zg, Zh, Zi, Nat.reduceAdd, Zj, Zk, Zm, Zo, Zq, Zt, c73_3, c73_4, c73_5, c73_6, hb23, h53]
  refine (hy s σ3 g _ _ ht hS3 hW3 hg3 (fun i b e q => hfree i b e (.inl q)) hD2).mono ?_
  rintro u σ4 ⟨rfl, hS4, hK4⟩
  have hlp4 := hK4.keep lp _ hlp hlp3
  simp -implicitDefEqProofs (maxDischargeDepth := 15) only [Yr, Ys, Yt, Wa, Wg, Wl, Wo, Wr, Wu, opA, Wv, Wx, Wy, Wz, Za, Zb, Vb, true_and, Yb, eq_self, RoundEnd]
  refine ⟨_, _, _, _, _, hlp4, ⟨?_, Vk, ?_⟩, ?_, ?_, ?_⟩
  · exact hI.frame _ σ4 _ hS4 fun i hi => Vl (fun q => hlp (q ▸ hi))
  · rw [Vl hne]; exact hK4.keep b2 _ hb2o hb23
  · have := hK4.le; show σ.next ≤ σ4.next; omega
  · intro i b hi e
    have h1 : i ≠ lp := fun q => hi (.inr (.inl q))
    rw [Vl h1]
    exact hK4.keep i b (fun q => hi (.inl q)) (hkeep i b h1 e)
  · exact hK4.wf.set (hK4.wf.lt hlp4) _
theorem termsS1_ok : ∀ (m : Nat) (l : List T), T.cnts l ≤ m → m ≤ 1152921504606846976 → ∀ (S : Type) (St : S → AState → Prop) (step : S → T → S) (Own : Nat → Prop) (y : Nat), Iter St Own → YT' St step Own (.yieldf y) →
    ∀ (s : S) (σ : AState) (g : Mem) (b : Nat) (o : Option (Nat × Nat)) (n : Nat) (c : Option Nat) (z : Nat), St s σ → Sub g σ.get → Free Own g → Ts g o n z l → σ.get b = some (.cells [.slice o n c z] true) → ¬ Own b →
    RunV RR Tryz.prog (.func (.func n_syntax_termsS1) [] [.ptr (some (b, 0))]) [.yieldf y] σ (fun u σ' => St (T.folds step s l) σ' ∧ Kept Own σ σ') := by
  intro m
  induction m using Nat.strongRecOn with
  | _ m ih =>
  intro l hl hm S St step Own y hI hy s σ g b o n c z hS hg0 hfree hT hb hbo
  refine RunV.wf fun hW => ?_
  refine runF_intro hmx rf_syntax_termsS1 ?_
  have hn : n = l.length := hT.1
  have hlen := cnts_len l
  have hbl := hW.lt hb
  have hOl : ∀ i, Own i → i < σ.next := fun i hi => hI.lt hW hS hi
  have hOn : ¬ Own σ.next := fun h => by have := hOl _ h; omega
  simp -implicitDefEqProofs (maxDischargeDepth := 15) only [Yr, Ys, Yt, Wj, Wk, Wm, Wo, opA, Wv, Ww, Wx, Wy, Wz, Za, Zb, List.replicate, Zc, Zd, Vb, Vc, Vd, AV.cells, Vh, partA, Zf, Zg, Nat.reduceAdd, Nat.reduceSub, Zk, Zq, i_syntax_termsS1, c73_0, c73_1, c73_7, c73_8, c73_9, c73_10, c73_11, c73_12, c73_13, c73_14, c73_15, c73_16, c73_17, c73_18, c73_19, hbl, hb]
  refine wp_loop (fun ts σ' m => ∃ k : Nat, St (T.folds step s (l.take k)) σ' ∧ Kept Own (σ.push (.cells [.yieldf y] true)) σ' ∧ k + m = n ∧ ∃ j0 j3 j4 j5 j9 j10 j11 j12 j13 j14 j15 j16 j17 j18 j19 j20 j21 j22 j23 j24 : AV, ts = [j0, .ptr (some (b, 0)), .ptr (some (σ.next, 0)), j3, j4, j5, .slice o n c z, .int .i64 n, .int .i64 k, j9, j10, j11, j12, j13, j14, j15, j16, j17, j18, j19, j20, j21, j22, j23, j24]) n ⟨0, hI.push hW hS _, Kept.refl (hW.push _), by omega, _, _, _, _, _, _, _, _, _, _, _, _, _, _, _, _, _, _, _, _, rfl⟩ ?_
  rintro m' ts σ' ⟨k, hSk, hK, hk, j0, j3, j4, j5, j9, j10, j11, j12, j13, j14, j15, j16, j17, j18, j19, j20, j21, j22, j23, j24, rfl⟩
  have hgk : Sub g σ'.get := hK.sub hfree (hg0.trans (sub_push hW _))
  have hb2 := hK.keep σ.next _ hOn Vg
  have hb2l := hK.wf.lt hb2
  by_cases hlt : k < n
  · obtain ⟨t, ht, htm⟩ := get_lt (l := l) (k := k) (by omega)
    obtain ⟨rfl, i, off, cs, w, rfl, hg, hlen3, xs, hxs, hd2⟩ := hT.elem ht
    have hgi := hgk _ _ hg
    have hnt := cnts_mem htm
    obtain ⟨v, nm, ar⟩ := t
    have hd3 := hd2
    obtain ⟨o1, c1, z1, rfl, hA⟩ := T.cells hd2
    have hi := hK.wf.lt hgi
    have hd : decide ((k : Int) < n) = true := decide_eq_true (by omega)
    have e1 : (0 : Int) ≤ (k : Int) ∧ (k : Int) < (n : Int) := by omega
    have hnt' := hnt
    simp only [T.cnt] at hnt'
    simp -implicitDefEqProofs (maxDischargeDepth := 15) only [↓reduceIte, Yr, Ys, Yt, Yz, Wb, Wg, Wj, Wk, Wl, Wm, Wo, Ws, Wt, opA, Wv, Wx, Wy, Wz, Va, Za, Zb, Zd, Ze, Vb, Vc, Vd, Ve, AV.cells, Vg, Vh, Vn, partA, Zf, Zg, Zh, Zi, Nat.reduceAdd, Zj, Zk, Zm, Zn, Zo, Zp, Zq, Zs, Zt, binA, putL, allOne, Zu, Zv, AV.one, Zy, and_self, EndOk, resultA, Yf, eq_self, Yp, e1, hgi, hlen3, hxs, hb2, hb2l]
    have hOl' : ∀ i, Own i → i < σ'.next := fun i hi => hI.lt hK.wf hSk hi
    have hOn' : ¬ Own σ'.next := fun h => by have := hOl' _ h; omega
    refine (hy _ _ g _ (.mk v nm ar) (by omega) (hI.push hK.wf hSk _) (hK.wf.push _) (hgk.trans (sub_push hK.wf _)) hfree hd3).mono ?_
    rintro u σ1 ⟨rfl, hS1, hK1⟩
    have hb3 := hK1.keep σ'.next _ hOn' Vg
    have hb3l := hK1.wf.lt hb3
    have hb4 := hK1.keep σ.next _ hOn (by rw [Vh hb2l]; exact hb2)
    have hb4l := hK1.wf.lt hb4
    have hg1 : Sub g σ1.get := hK1.sub hfree (hgk.trans (sub_push hK.wf _))
    simp -implicitDefEqProofs (maxDischargeDepth := 15) only [Yr, Ys, Yt, Wa, Wb, Wg, Wj, Wk, Wl, Wo, Wu, opA, Wv, Ww, Wx, Wy, Wz, Za, Zb, Vb, partA, Zh, Zi, Zk, Zq, Zr, Yb, hb3]
    refine RunV.to (terms_ok _ _ _ _ _) ?_
    simp -implicitDefEqProofs (maxDischargeDepth := 15) only [Yr, Wm, Wn, Wo, Wu, Wv, Wx, Wy, Wz, Za, Zb]
    have hWp := hK1.wf.push (.cells [.slice o1 ar.length c1 z1] true)
    generalize hσ2 : σ1.push (.cells [.slice o1 ar.length c1 z1] true) = σ2
    rw [hσ2] at hWp
    have h12 : Sub σ1.get σ2.get := by rw [← hσ2]; exact sub_push hK1.wf _
    have hn12 : σ2.next = σ1.next + 1 := by rw [← hσ2]; rfl
    have hcl : σ2.get σ1.next = some (.cells [.slice o1 ar.length c1 z1] true) := by rw [← hσ2, Vg]
    have hS2 : St (step (T.folds step s (l.take k)) (.mk v nm ar)) σ2 := by rw [← hσ2]; exact hI.push hK1.wf hS1 _
    have hOl1 : ∀ i, Own i → i < σ1.next := fun i hi => hI.lt hK1.wf hS1 hi
    have hlpo : ¬ Own σ2.next := fun h => by have := hOl1 _ h; omega
    have hb2l1 : σ.next < σ1.next := hK1.wf.lt hb4
    refine RunV.mono (ih (T.cnts ar) (by omega) ar (Nat.le_refl _) (by omega) S _ step _ σ2.next (tyIter hI) (termsY_ok hI hy hlpo hOn (by omega)) (step (T.folds step s (l.take k)) (.mk v nm ar)) _ g σ1.next o1 ar.length c1 z1 (TySt.mk (hI.push hWp hS2 _) Vg (by rw [Vh (by omega)]; exact h12 _ _ hb4)) ?_ ?_ hA ?_ ?_) ?_
    · exact (hg1.trans h12).trans (sub_push hWp _)
    · intro i b hb hi
      rcases hi with hi | rfl | rfl
      · exact hfree i b hb hi
      · have := hK1.wf.lt (hg1 _ _ hb); omega
      · have := hW.lt (hg0 _ _ hb); omega
    · rw [Vh (by omega)]; exact hcl
    · rintro (h | h | h)
      · have := hOl1 _ h; omega
      · omega
      · omega
    · rintro u σ5 ⟨⟨hS5, hl5, hb5⟩, hK5⟩
      rw [rangeK_ok hl5]
      simp -implicitDefEqProofs (maxDischargeDepth := 15) only [↓reduceIte, Yr, Ys, Yt, Wj, Wo, Wr, opA, Wv, Ww, Wx, Wy, Wz, Za, Zb, Vb, binA, eq_self]
      rw [wrap_i64 (n := (k : Int) + 1) (by omega)]
      have hS6 : St (T.folds step s (l.take (k + 1))) (σ5.kill σ2.next) := by
        rw [tfolds_take step ht]
        exact hI.frame _ σ5 _ hS5 fun i hi => Vm (fun q => by subst q; exact hlpo hi)
      have hK6 : Kept Own (σ.push (.cells [.yieldf y] true)) (σ5.kill σ2.next) := by
        refine ⟨?_, ?_, hK5.wf.kill _⟩
        · have h1 := hK.le; have h2 := hK1.le; have h3 := hK5.le
          show (σ.push _).next ≤ σ5.next
          have h4 : (σ2.push (.loop .ready none [] [] .skip .skip)).next = σ2.next + 1 := rfl
          have h5 : (σ'.push (.loop .ready none [] [] .skip .skip)).next = σ'.next + 1 := rfl
          simp only [AState.push_next] at h1 h2 h3 ⊢
          omega
        · intro i b hi e
          by_cases hib : i = σ.next
          · subst hib
            rw [Vg] at e; cases e
            rw [Vm (by omega)]; exact hb5
          · have e1 := hK.keep i b hi e
            have e2 := hK1.keep i b hi ((sub_push hK.wf _) i b e1)
            have e3 := h12 i b e2
            have hil := hK1.wf.lt e2
            rw [Vm (by omega)]
            refine hK5.keep i b ?_ ((sub_push hWp _) i b e3)
            rintro (h | h | h)
            · exact hi h
            · omega
            · exact hib h
      exact ⟨m' - 1, by omega, k + 1, hS6, hK6, by omega, _, _, _, _, _, _, _, _, _, _, _, _, _, _, _, _, _, _, _, _, rfl⟩
  · have hd : decide ((k : Int) < n) = false := decide_eq_false (by omega)
    simp -implicitDefEqProofs (maxDischargeDepth := 15) only [↓reduceIte, Yr, Ys, Yt, Wa, Wi, Wj, Wk, Wl, Wo, Wp, Ws, Wt, opA, Wv, Wx, Wy, Wz, Za, Zb, Vb, binA, EndOk, resultA, eq_self, hd]
    have : l.take k = l := List.take_of_length_le (by omega)
    rw [this] at hSk
    exact ⟨hSk, ((Kept.refl hW).push _).trans hK⟩
end Go.Am
namespace Go.Am
open Go.RowKit Go.Proofs Do
set_option maxRecDepth 100000
abbrev wI (n : Nat) : AV := .int .i64 (IntKind.wrap .i64 n)
theorem wrap_add1 (s : Nat) : wrapF .i64 (IntKind.wrap .i64 s + 1) = IntKind.wrap .i64 ((s + 1 : Nat) : Int) := by
  rw [wrapF_eq, IntKind.wrap_i64, IntKind.wrap_i64, IntKind.wrap_i64]; omega
def NSt2 (c lp : Nat) (ts0 : List AV) (s : Nat) (σ : AState) : Prop := σ.get c = some (.cells [wI s] true) ∧ σ.get lp = some (.loop .ready none ts0 [13] .skip c29_2)
theorem NSt2.mk {c lp : Nat} {ts0 : List AV} {s : Nat} {σ : AState} (h : σ.get c = some (.cells [wI s] true)) (k : σ.get lp = some (.loop .ready none ts0 [13] .skip c29_2)) : NSt2 c lp ts0 s σ := ⟨h, k⟩
def NSt (c lp : Nat) (ts0 : List AV) (s : Nat) (σ : AState) : Prop := σ.get c = some (.cells [wI s] true) ∧ σ.get lp = some (.loop .ready none ts0 [7] c29_0 c29_7)
theorem NSt.mk {c lp : Nat} {ts0 : List AV} {s : Nat} {σ : AState} (h : σ.get c = some (.cells [wI s] true)) (k : σ.get lp = some (.loop .ready none ts0 [7] c29_0 c29_7)) : NSt c lp ts0 s σ := ⟨h, k⟩
def NOwn (c lp : Nat) (i : Nat) : Prop := i = c ∨ i = lp
theorem nIter2 (c lp : Nat) (ts0 : List AV) : Iter (NSt2 c lp ts0) (NOwn c lp) where
  own s σ i h k := by
    rcases k with rfl | rfl
    · exact ⟨_, h.1⟩
    · exact ⟨_, h.2⟩
  frame s σ σ' h k := ⟨by rw [k c (.inl rfl)]; exact h.1, by rw [k lp (.inr rfl)]; exact h.2⟩
theorem nIter (c lp : Nat) (ts0 : List AV) : Iter (NSt c lp ts0) (NOwn c lp) where
  own s σ i h k := by
    rcases k with rfl | rfl
    · exact ⟨_, h.1⟩
    · exact ⟨_, h.2⟩
  frame s σ σ' h k := ⟨by rw [k c (.inl rfl)]; exact h.1, by rw [k lp (.inr rfl)]; exact h.2⟩
theorem nodesY2_ok {c lp : Nat} (hne : c ≠ lp) {j0 j1 j2 j4 j5 j6 j7 j8 j9 j10 j11 j12 j13 j14 j15 j16 : AV} : YT' (NSt2 c lp [j0, j1, j2, .ptr (some (c, 0)), j4, j5, j6, j7, j8, j9, j10, j11, j12, j13, j14, j15, j16]) (fun s _ => s + 1) (NOwn c lp) (.yieldf lp) := by
  rintro s σ g xs t ht ⟨hc, hl⟩ hW hg hfree hD
  refine runY_intro hmx hl rfl ?_
  have hll := hW.lt hl
  have hcl := hW.lt hc
  simp -implicitDefEqProofs (maxDischargeDepth := 15) only [Ys, Wg, Wj, Wm, opA, Wv, Wx, Wy, Za, Zb, partA, true_and, eq_self, setPs, c29_1, c29_2]
  refine ⟨_, _, _, _, _, hl, ?_⟩
  have hne' : lp ≠ c := Ne.symm hne
  have hc1 : (σ.set lp (.loop .busy none [j0, j1, j2, .ptr (some (c, 0)), j4, j5, j6, j7, j8, j9, j10, j11, j12, j13, j14, j15, j16] [13] .skip c29_2)).get c = some (.cells [wI s] true) := by rw [Vl hne]; exact hc
  simp -implicitDefEqProofs (maxDischargeDepth := 15) only [↓reduceIte, Yr, Ys, Yt, Wr, opA, Wv, Ww, Wx, Wy, Wz, Va, Za, Zb, Zd, Ze, Vb, Vc, Ve, AV.cells, Vk, Vl, Zf, Zg, Zj, Zk, Zn, Zp, Zq, Zs, binA, putL, allOne, Zu, Zv, AV.one, Zy, and_self, true_and, eq_self, ne_eq, Yo, hc, hne, hne', wrap_add1, RoundEnd]
  refine ⟨_, _, _, _, _, by first | rfl | rw [Vl hne', Vk], ⟨?_, Vk⟩, Nat.le_refl _, ?_, ?_⟩
  · rw [Vl hne, Vk]
  · intro i b hi e
    have h1 : i ≠ c := fun q => hi (.inl q)
    have h2 : i ≠ lp := fun q => hi (.inr q)
    rw [Vl h2, Vl h1, Vl h2]; exact e
  · exact ((hW.set hll _).set hcl _).set hll _
theorem tfolds_cnt (l : List T) (s : Nat) : T.folds (fun s _ => s + 1) s l = s + T.cnts l := by
  have key : ∀ (m : Nat) (l : List T) (s : Nat), T.cnts l ≤ m → T.folds (fun s _ => s + 1) s l = s + T.cnts l := by
    intro m
    induction m with
    | zero =>
      intro l s h
      cases l with
      | nil => simp [T.folds, T.cnts]
      | cons a r => cases a; simp [T.cnts, T.cnt] at h
    | succ m ih =>
      intro l
      induction l with
      | nil => intro s _; simp [T.folds, T.cnts]
      | cons a r ih2 =>
        intro s h
        obtain ⟨v, n, ar⟩ := a
        simp only [T.cnts, T.cnt] at h
        simp only [T.folds, T.fold, T.cnts, T.cnt]
        rw [ih ar _ (by omega), ih2 _ (by omega)]
        omega
  exact key _ l s (Nat.le_refl _)
def fArgs : F → List T
  | .mk _ _ ar _ => ar
mutual
theorem ffold_nodes : ∀ (f : F) (s : Nat), F.fold (fun s f => s + 1 + T.cnts (fArgs f)) s f = s + f.nodes
  | .mk op n ar l, s => by
    simp only [F.fold, F.nodes]
    show F.folds (fun s f => s + 1 + T.cnts (fArgs f)) (s + 1 + T.cnts ar) l = _
    rw [ffolds_nodes l]; omega
theorem ffolds_nodes : ∀ (l : List F) (s : Nat), F.folds (fun s f => s + 1 + T.cnts (fArgs f)) s l = s + F.nodess l
  | [], s => by simp [F.folds, F.nodess]
  | f :: r, s => by simp only [F.folds, F.nodess]; rw [ffold_nodes f, ffolds_nodes r]; omega
end
theorem nodesY_ok {c lp : Nat} (hne : c ≠ lp) {j0 j1 j2 j4 j5 j6 j7 j8 j9 j10 j11 j12 j13 j14 j15 j16 : AV} : YF' (NSt c lp [j0, j1, j2, .ptr (some (c, 0)), j4, j5, j6, j7, j8, j9, j10, j11, j12, j13, j14, j15, j16]) (fun s f => s + 1 + T.cnts (fArgs f)) (NOwn c lp) (.yieldf lp) := by
  rintro s σ g xs f hf ⟨hc, hl⟩ hW hg hfree hD
  refine runY_intro hmx hl rfl ?_
  have hll := hW.lt hl
  have hcl := hW.lt hc
  have hne' : lp ≠ c := Ne.symm hne
  obtain ⟨op, nm, ar, l⟩ := f
  simp only [F.nodes] at hf
  obtain ⟨o1, c1, z1, o2, c2, z2, rfl, hA, hL⟩ := F.cells hD
  simp -implicitDefEqProofs (maxDischargeDepth := 15) only [↓reduceIte, Yr, Ys, Yt, Wj, opA, Wv, Wx, Wy, Wz, Va, Za, Zb, Zd, Ze, Vb, Vc, Vd, Ve, AV.cells, Vg, Vh, Vn, Zf, Zg, Nat.reduceAdd, Zj, Zk, Zn, Zp, Zs, putL, allOne, Zu, Zv, AV.one, Zy, and_self, true_and, eq_self, setPs, c29_0, hll]
  refine ⟨_, _, _, _, _, hl, ?_⟩
  generalize hσ3 : (σ.push (.cells [.int .u8 op, .str nm, .slice o1 ar.length c1 z1, .slice o2 l.length c2 z2] true)).set lp (.loop .busy none [j0, j1, j2, .ptr (some (c, 0)), j4, j5, j6, j7, j8, j9, j10, j11, j12, j13, j14, j15, j16] [7] c29_0 c29_7) = σ3
  have hkeep : ∀ i b, i ≠ lp → σ.get i = some b → σ3.get i = some b := fun i b hi e => by
    rw [← hσ3, Vl hi, Vh (hW.lt e)]; exact e
  have hW3 : σ3.Wf := by rw [← hσ3]; exact (hW.push _).set (Vj hll) _
  have hlp3 : σ3.get lp = some (.loop .busy none [j0, j1, j2, .ptr (some (c, 0)), j4, j5, j6, j7, j8, j9, j10, j11, j12, j13, j14, j15, j16] [7] c29_0 c29_7) := by rw [← hσ3, Vk]
  have hnx : σ3.next = σ.next + 1 := by rw [← hσ3]; rfl
  have h53 : σ3.get σ.next = some (.cells [.int .u8 op, .str nm, .slice o1 ar.length c1 z1, .slice o2 l.length c2 z2] true) := by rw [← hσ3, Vl (by omega), Vg]
  have hc3 := hkeep c _ hne hc
  have hnc : σ.next ≠ c := by omega
  simp -implicitDefEqProofs (maxDischargeDepth := 15) only [↓reduceIte, Yr, Ys, Yt, Wb, Wj, Wk, Wm, Wo, opA, Wv, Ww, Wx, Wy, Wz, Va, Za, Zb, Zd, Ze, Vb, Vc, Ve, AV.cells, Vl, partA, Zf, Zg, Zh, Zi, Zj, Zk, Zn, Zp, Zq, Zr, Zs, binA, putL, allOne, Zu, Zv, AV.one, Zy, and_self, eq_self, ne_eq, Yo, c29_3, c29_4, c29_5, c29_6, c29_7, hc3, h53, hnc, wrap_add1]
  generalize hσ4 : σ3.set c (.cells [wI (s + 1)] true) = σ4
  have hW4 : σ4.Wf := by rw [← hσ4]; exact hW3.set (hW3.lt hc3) _
  have hn4 : σ4.next = σ3.next := by rw [← hσ4]; rfl
  have hc4 : σ4.get c = some (.cells [wI (s + 1)] true) := by rw [← hσ4, Vk]
  have hk4 : ∀ i b, i ≠ c → σ3.get i = some b → σ4.get i = some b := fun i b hi e => by rw [← hσ4, Vl hi]; exact e
  have h54 := hk4 σ.next _ hnc h53
  try simp -implicitDefEqProofs (maxDischargeDepth := 15) only [↓reduceIte, Yr, Ys, Yt, Yu, Yv, Yw, Yx, Yy, Yz, Wa, Wb, Wc, Wd, We, Wf, Wg, Wh, Wi, Wj, Wk, Wl, Wm, Wn, Wo, Wp, Wq, Wr, Ws, Wt, Wu, opA, Wv, Ww, Wx, Wy, Wz, Va, Za, Zb, List.replicate, Zc, Zd, Ze, Vb, Vc, Vd, Ve, Vf, AV.cells, Vg, Vh, Vi, Vj, AState.set_next, AState.kill_next, Vk, Vl, Vm, Vn, Vo, Vp, Vq, Vr, Vs, Vt, partA, Zf, Zg, Zh, Zi, if_true, if_false, Nat.reduceAdd, Nat.reduceLeDiff, Nat.reduceSub, Zj, Nat.zero_le, Zk, Zl, Zm, Zn, Zo, Zp, Zq, Zr, Zs, Zt, binA, eqA, kEq, nilEq, fillA, putL, allOne, Zu, Zv, AV.one, Zw, Zx, Zy, and_self, and_true, true_and, lenA, firstA, EndOk, resultA, oneOf, Zz, Ya, Yb, Yc, Yd, Ye, reduceCtorEq, Yf, Yg, natOf, upTo, bMax, bHigh, bLow, boundsA, evO, Yh, Yi, againOk, Vu, Vv, Vw, Yj, Yk, eq_self, Yl, Ym, Yn, setPs, or_true, true_or, false_or, or_false, ne_eq, Yo, Vx, Vy, Yp, Yq, i_syntax_Nodes, c29_0, c29_1, c29_3, c29_4, c29_5, c29_6, c29_7, c29_8, c29_9, c29_10, c29_11, c29_12, c29_13, h54]
  refine RunV.to (terms_ok _ _ _ _ _) ?_
  simp -implicitDefEqProofs (maxDischargeDepth := 15) only [Yr, Wm, Wn, Wo, Wu, Wv, Wx, Wy, Wz, Za, Zb]
  have hWp := hW4.push (.cells [.slice o1 ar.length c1 z1] true)
  generalize hσ5 : σ4.push (.cells [.slice o1 ar.length c1 z1] true) = σ5
  rw [hσ5] at hWp
  have h45 : Sub σ4.get σ5.get := by rw [← hσ5]; exact sub_push hW4 _
  have hn5 : σ5.next = σ4.next + 1 := by rw [← hσ5]; rfl
  have hb5 : σ5.get σ4.next = some (.cells [.slice o1 ar.length c1 z1] true) := by rw [← hσ5, Vg]
  have hc5 := h45 _ _ hc4
  have hlp4 := hk4 lp _ hne' hlp3
  have hlp5 := h45 _ _ hlp4
  have hg5 : Sub g σ5.get := fun i b e => h45 i b (hk4 i b (fun q => hfree i b e (.inl q)) (hkeep i b (fun q => hfree i b e (.inr q)) (hg i b e)))
  refine RunV.mono (termsS1_ok (T.cnts ar) ar (Nat.le_refl _) (by omega) Nat _ (fun s _ => s + 1) (NOwn c σ5.next) σ5.next (nIter2 c σ5.next _) (nodesY2_ok (by omega)) (s + 1) _ g σ4.next o1 ar.length c1 z1
    (NSt2.mk (by rw [Vh (by omega)]; exact hc5) Vg) (hg5.trans (sub_push hWp _)) (fun i b e q => by
      rcases q with q | q
      · exact hfree i b e (.inl q)
      · have := hW.lt (hg i b e); omega) hA (by rw [Vh (by omega)]; exact hb5) (by rintro (q | q) <;> omega)) ?_
  rintro u σ6 ⟨⟨hc6, hl6⟩, hK6⟩
  rw [rangeK_ok hl6]
  simp -implicitDefEqProofs (maxDischargeDepth := 15) only [Wr, true_and, eq_self, RoundEnd]
  rw [tfolds_cnt] at hc6
  have hlp6 := hK6.keep lp _ (by rintro (q | q) <;> omega) (by rw [Vh (by omega)]; exact hlp5)
  have hl5 := hW4.lt hlp4
  refine ⟨_, _, _, _, _, by rw [Vm (by omega)]; exact hlp6, ⟨?_, Vk⟩, ?_, ?_, ?_⟩
  · rw [Vl hne, Vm (by omega)]; exact hc6
  · have h1 := hK6.le
    simp only [AState.push_next] at h1
    show σ.next ≤ σ6.next; omega
  · intro i b hi e
    have h1 : i ≠ c := fun q => hi (.inl q)
    have h2 : i ≠ lp := fun q => hi (.inr q)
    have h3 := hW.lt e
    rw [Vl h2, Vm (by omega)]
    refine hK6.keep i b (by rintro (q | q) <;> omega) ?_
    rw [Vh (by omega)]
    exact h45 i b (hk4 i b h1 (hkeep i b h2 e))
  · have h1 := hK6.le
    simp only [AState.push_next] at h1
    exact (hK6.wf.kill _).set (by show lp < σ6.next; omega) _
theorem nodes_ok (f : F) (hf : f.nodes ≤ 1152921504606846976) (σ : AState) (xs : List AV) (hD : DAtL σ.get f.dv xs) : RunF RR Tryz.prog n_syntax_Nodes [.agg xs] σ (fun u σ' => u = .int .i64 f.nodes ∧ σ' = σ) := by
  refine RunV.wf fun hW => RunV.forget rfl ?_
  refine runF_intro hmx rf_syntax_Nodes ?_
  have hl : 4 ≤ xs.length := by rw [hD.length, F.dv_len]; omega
  have ht : xs.take 4 = xs := List.take_of_length_le (by rw [hD.length, F.dv_len]; omega)
  simp -implicitDefEqProofs (maxDischargeDepth := 15) only [↓reduceIte, Yr, Ys, Yt, Wb, Wj, Wk, Wo, opA, Wv, Ww, Wx, Wy, Wz, Va, Za, Zb, List.replicate, Zc, Zd, Ze, Vb, Vc, Vd, Ve, AV.cells, Vg, Vh, Vi, Vn, partA, Zf, Zg, Zh, Zi, Nat.reduceSub, Zj, Zk, Zm, Zn, Zp, Zs, putL, allOne, Zu, Zv, AV.one, Zy, and_self, eq_self, i_syntax_Nodes, c29_8, c29_9, c29_10, c29_11, c29_12, c29_13, hl, ht]
  refine RunV.to (all_ok _ _) ?_
  simp -implicitDefEqProofs (maxDischargeDepth := 15) only [Yr, Wm, Wn, Wo, Wu, Wv, Wx, Wy, Wz, Za, Zb]
  have hW1 := hW.push (.cells xs true)
  have hW2 := hW1.push (.cells [.int .i64 0] true)
  have hW3 := hW2.push (.cells xs true)
  have h01 := sub_push hW (.cells xs true)
  have h12 := sub_push hW1 (.cells [.int .i64 0] true)
  have h23 := sub_push hW2 (.cells xs true)
  refine RunV.mono (allS1_ok (nIter (σ.push (.cells xs true)).next _ _) (nodesY_ok (by simp only [AState.push_next]; omega)) f hf 0 _ σ.get xs _
    (NSt.mk (by rw [Vh (by simp only [AState.push_next]; omega), Vh (by simp only [AState.push_next]; omega), Vg]; rfl) Vg) (h01.trans (h12.trans (h23.trans (sub_push hW3 _)))) (fun i b e q => by
      have := hW.lt e
      simp only [NOwn, AState.push_next] at q; omega) hD (by rw [Vh (by simp only [AState.push_next]; omega), Vg])) ?_
  rintro u σ6 ⟨⟨hc6, hl6⟩, hK6⟩
  rw [rangeK_ok hl6]
  have hne : (σ.push (.cells xs true)).next ≠ (((σ.push (.cells xs true)).push (.cells [.int .i64 0] true)).push (.cells xs true)).next := by simp only [AState.push_next]; omega
  rw [ffold_nodes] at hc6
  have hck : (σ6.kill (((σ.push (.cells xs true)).push (.cells [.int .i64 0] true)).push (.cells xs true)).next).get (σ.push (.cells xs true)).next = some (.cells [wI (0 + f.nodes)] true) := by rw [Vm hne]; exact hc6
  simp -implicitDefEqProofs (maxDischargeDepth := 15) only [Yr, Ys, Yt, Wh, Wj, Wk, Wo, Wr, opA, Wv, Wx, Wy, Wz, Za, Zb, Vb, Vm, partA, Zk, Zq, EndOk, resultA, oneOf, Zz, ne_eq, Yo, hc6, hne]
  refine ⟨by show AV.int .i64 (IntKind.wrap .i64 _) = _; rw [IntKind.wrap_i64]; simp only [AV.int.injEq, true_and]; omega, fun i b e => ?_⟩
  have := hW.lt e
  rw [Vm (by simp only [AState.push_next]; omega)]
  exact hK6.keep i b (by simp only [NOwn, AState.push_next]; omega) ((sub_push hW3 _) i b (h23 i b (h12 i b (h01 i b e))))
end Go.Am
namespace Go.Am
open Go.RowKit Go.Proofs Do
set_option maxRecDepth 100000
abbrev bI (b : UInt8) : AV := .int .u8 b.toNat
theorem u8le {a b : UInt8} : decide ((b.toNat : Int) ≥ a.toNat) = decide (a ≤ b) := by
  rw [decide_eq_decide, UInt8.le_iff_toNat_le]; omega
theorem u8ge {a b : UInt8} : decide ((b.toNat : Int) ≤ a.toNat) = decide (b ≤ a) := by
  rw [decide_eq_decide, UInt8.le_iff_toNat_le]; omega
theorem digit_ok (b : UInt8) (σ : AState) : RunF RR Tryz.prog n_syntax_digit [bI b] σ (fun u σ' => u = .bool (isDigit b) ∧ σ' = σ) := by
  refine runF_intro hmx rf_syntax_digit ?_
  have h1 : decide ((b.toNat : Int) ≥ 48) = decide (48 ≤ b) := u8le (a := 48)
  have h2 : decide ((b.toNat : Int) ≤ 57) = decide (b ≤ 57) := u8ge (a := 57)
  unfold isDigit
  cases h : decide (48 ≤ b)
  · rw [h] at h1; simp -implicitDefEqProofs (maxDischargeDepth := 15) only [↓reduceIte, Yr, Ys, Yt, Yw, Wd, Wh, Wj, Wk, Wo, opA, Wv, Ww, Wx, Wy, Wz, Za, Zb, List.replicate, Zc, Zd, Ze, Vb, Zf, Zg, Nat.reduceSub, Zk, binA, and_self, EndOk, resultA, oneOf, Zz, Yd, Vu, Vv, eq_self, Vx, i_syntax_digit, c37_0, c37_1, h1, Bool.false_and]
  · rw [h] at h1; simp -implicitDefEqProofs (maxDischargeDepth := 15) only [↓reduceIte, Yr, Ys, Yt, Yv, Wd, Wh, Wj, Wk, Wo, opA, Wv, Ww, Wx, Wy, Wz, Za, Zb, List.replicate, Zc, Zd, Ze, Vb, Zf, Zg, Nat.reduceSub, Zk, binA, Zx, and_self, EndOk, resultA, oneOf, Zz, Vu, Vv, Yj, eq_self, i_syntax_digit, c37_0, c37_1, h1, h2, Zx]
theorem capital_ok (b : UInt8) (σ : AState) : RunF RR Tryz.prog n_syntax_capital [bI b] σ (fun u σ' => u = .bool (isCap b) ∧ σ' = σ) := by
  refine runF_intro hmx rf_syntax_capital ?_
  have h1 : decide ((b.toNat : Int) ≥ 65) = decide (65 ≤ b) := u8le (a := 65)
  have h2 : decide ((b.toNat : Int) ≤ 90) = decide (b ≤ 90) := u8ge (a := 90)
  unfold isCap
  cases h : decide (65 ≤ b)
  · rw [h] at h1; simp -implicitDefEqProofs (maxDischargeDepth := 15) only [↓reduceIte, Yr, Ys, Yt, Yw, Wd, Wh, Wj, Wk, Wo, opA, Wv, Ww, Wx, Wy, Wz, Za, Zb, List.replicate, Zc, Zd, Ze, Vb, Zf, Zg, Nat.reduceSub, Zk, binA, and_self, EndOk, resultA, oneOf, Zz, Yd, Vu, Vv, eq_self, Vx, i_syntax_capital, c59_0, c59_1, h1, Bool.false_and]
  · rw [h] at h1; simp -implicitDefEqProofs (maxDischargeDepth := 15) only [↓reduceIte, Yr, Ys, Yt, Yv, Wd, Wh, Wj, Wk, Wo, opA, Wv, Ww, Wx, Wy, Wz, Za, Zb, List.replicate, Zc, Zd, Ze, Vb, Zf, Zg, Nat.reduceSub, Zk, binA, Zx, and_self, EndOk, resultA, oneOf, Zz, Vu, Vv, Yj, eq_self, i_syntax_capital, c59_0, c59_1, h1, h2, Zx]
theorem small_ok (b : UInt8) (σ : AState) : RunF RR Tryz.prog n_syntax_small [bI b] σ (fun u σ' => u = .bool (isSmall b) ∧ σ' = σ) := by
  refine runF_intro hmx rf_syntax_small ?_
  have h1 : decide ((b.toNat : Int) ≥ 97) = decide (97 ≤ b) := u8le (a := 97)
  have h2 : decide ((b.toNat : Int) ≤ 122) = decide (b ≤ 122) := u8ge (a := 122)
  unfold isSmall
  cases h : decide (97 ≤ b)
  · rw [h] at h1; simp -implicitDefEqProofs (maxDischargeDepth := 15) only [↓reduceIte, Yr, Ys, Yt, Yw, Wd, Wh, Wj, Wk, Wo, opA, Wv, Ww, Wx, Wy, Wz, Za, Zb, List.replicate, Zc, Zd, Ze, Vb, Zf, Zg, Nat.reduceSub, Zk, binA, and_self, EndOk, resultA, oneOf, Zz, Yd, Vu, Vv, eq_self, Vx, i_syntax_small, c14_0, c14_1, h1, Bool.false_and]
  · rw [h] at h1; simp -implicitDefEqProofs (maxDischargeDepth := 15) only [↓reduceIte, Yr, Ys, Yt, Yv, Wd, Wh, Wj, Wk, Wo, opA, Wv, Ww, Wx, Wy, Wz, Za, Zb, List.replicate, Zc, Zd, Ze, Vb, Zf, Zg, Nat.reduceSub, Zk, binA, Zx, and_self, EndOk, resultA, oneOf, Zz, Vu, Vv, Yj, eq_self, i_syntax_small, c14_0, c14_1, h1, h2, Zx]
theorem fnS1_ok (b : UInt8) (σ : AState) : RunF RR Tryz.prog n_syntax_FunctionS1 [bI b] σ (fun u σ' => u = .bool (firstFun b) ∧ σ' = σ) := by
  refine runF_intro hmx rf_syntax_FunctionS1 ?_
  have h1 : decide ((b.toNat : Int) ≥ 97) = decide (97 ≤ b) := u8le (a := 97)
  have h2 : decide ((b.toNat : Int) ≤ 116) = decide (b ≤ 116) := u8ge (a := 116)
  unfold firstFun
  cases h : decide (97 ≤ b)
  · rw [h] at h1; simp -implicitDefEqProofs (maxDischargeDepth := 15) only [↓reduceIte, Yr, Ys, Yt, Yw, Wd, Wh, Wj, Wk, Wo, opA, Wv, Ww, Wx, Wy, Wz, Za, Zb, List.replicate, Zc, Zd, Ze, Vb, Zf, Zg, Nat.reduceSub, Zk, binA, and_self, EndOk, resultA, oneOf, Zz, Yd, Vu, Vv, eq_self, Vx, i_syntax_FunctionS1, c58_0, c58_1, h1, Bool.false_and]
  · rw [h] at h1; simp -implicitDefEqProofs (maxDischargeDepth := 15) only [↓reduceIte, Yr, Ys, Yt, Yv, Wd, Wh, Wj, Wk, Wo, opA, Wv, Ww, Wx, Wy, Wz, Za, Zb, List.replicate, Zc, Zd, Ze, Vb, Zf, Zg, Nat.reduceSub, Zk, binA, Zx, and_self, EndOk, resultA, oneOf, Zz, Vu, Vv, Yj, eq_self, i_syntax_FunctionS1, c58_0, c58_1, h1, h2, Zx]
theorem varS1_ok (b : UInt8) (σ : AState) : RunF RR Tryz.prog n_syntax_VariableS1 [bI b] σ (fun u σ' => u = .bool (firstVar b) ∧ σ' = σ) := by
  refine runF_intro hmx rf_syntax_VariableS1 ?_
  have h1 : decide ((b.toNat : Int) ≥ 117) = decide (117 ≤ b) := u8le (a := 117)
  have h2 : decide ((b.toNat : Int) ≤ 122) = decide (b ≤ 122) := u8ge (a := 122)
  unfold firstVar
  cases h : decide (117 ≤ b)
  · rw [h] at h1; simp -implicitDefEqProofs (maxDischargeDepth := 15) only [↓reduceIte, Yr, Ys, Yt, Yw, Wd, Wh, Wj, Wk, Wo, opA, Wv, Ww, Wx, Wy, Wz, Za, Zb, List.replicate, Zc, Zd, Ze, Vb, Zf, Zg, Nat.reduceSub, Zk, binA, and_self, EndOk, resultA, oneOf, Zz, Yd, Vu, Vv, eq_self, Vx, i_syntax_VariableS1, c12_0, c12_1, h1, Bool.false_and]
  · rw [h] at h1; simp -implicitDefEqProofs (maxDischargeDepth := 15) only [↓reduceIte, Yr, Ys, Yt, Yv, Wd, Wh, Wj, Wk, Wo, opA, Wv, Ww, Wx, Wy, Wz, Za, Zb, List.replicate, Zc, Zd, Ze, Vb, Zf, Zg, Nat.reduceSub, Zk, binA, Zx, and_self, EndOk, resultA, oneOf, Zz, Vu, Vv, Yj, eq_self, i_syntax_VariableS1, c12_0, c12_1, h1, h2, Zx]
theorem letter_ok (b : UInt8) (σ : AState) : RunF RR Tryz.prog n_syntax_letter [bI b] σ (fun u σ' => u = .bool (isLetter b) ∧ σ' = σ) := by
  refine runF_intro hmx rf_syntax_letter ?_
  unfold isLetter
  simp -implicitDefEqProofs (maxDischargeDepth := 15) only [Yr, Ys, Yt, Wb, Wj, Wk, Wo, opA, Wv, Ww, Wx, Wy, Wz, Za, Zb, List.replicate, Zc, Zd, Ze, Vb, Zf, Zg, Zh, Zi, Nat.reduceSub, Zk, i_syntax_letter, c54_0, c54_1, c54_2, c54_3, c54_4]
  refine RunV.to (small_ok b _) ?_
  cases h : isSmall b
  · simp -implicitDefEqProofs (maxDischargeDepth := 15) only [Ys, Yt, Yv, Wb, Wd, We, Wu, opA, Wv, Ww, Wx, Wy, Wz, Za, Zb, Vb, Zh, Zi, Vu, Vv, Yj, Bool.false_or]
    refine RunV.to (capital_ok b _) ?_
    cases h : isCap b
    · simp -implicitDefEqProofs (maxDischargeDepth := 15) only [↓reduceIte, Ys, Yt, Yv, Wb, Wd, We, Wu, opA, Wv, Ww, Wx, Wy, Wz, Za, Zb, Vb, Zh, Zi, Yd, Vu, Vv, Yj, Bool.false_or]
      refine RunV.to (digit_ok b _) ?_
      simp -implicitDefEqProofs (maxDischargeDepth := 15) only [↓reduceIte, Yr, Ys, Yt, Wh, Wo, Wu, opA, Wv, Wx, Wy, Wz, Za, Zb, Vb, and_self, EndOk, resultA, oneOf, Zz, Yd, eq_self]
    · simp -implicitDefEqProofs (maxDischargeDepth := 15) only [↓reduceIte, Yr, Ys, Yt, Yw, Wd, We, Wh, Wo, Wu, opA, Wv, Ww, Wx, Wy, Wz, Za, Zb, Vb, and_self, EndOk, resultA, oneOf, Zz, Yd, Vu, Vv, eq_self, Vy, Bool.true_or]
  · simp -implicitDefEqProofs (maxDischargeDepth := 15) only [↓reduceIte, Yr, Ys, Yt, Yw, Wd, We, Wh, Wo, Wu, opA, Wv, Ww, Wx, Wy, Wz, Za, Zb, Vb, and_self, EndOk, resultA, oneOf, Zz, Vu, Vv, eq_self, Vy, Bool.true_or]
theorem index_strs_ok {σ : AState} {o : Option (Nat × Nat)} {n : Nat} {c : Option Nat} {z : Nat} {ss : List Str} (h : Strs σ.get o n z ss) (hb : n ≤ 4611686018427387904) (s : Str) :
    RunF RR Tryz.prog n_slices_Contains_string [.slice o n c z, .str s] σ (fun u σ' => u = .bool (ss.contains s) ∧ σ' = σ) := by
  refine runF_intro hmx rf_slices_Contains_string ?_
  have hlen := h.len
  simp -implicitDefEqProofs (maxDischargeDepth := 15) only [Yr, Ys, Yt, Wb, Wj, Wk, Wo, opA, Wv, Ww, Wx, Wy, Wz, Za, Zb, List.replicate, Zc, Zd, Ze, Vb, Zf, Zg, Zh, Zi, Nat.reduceAdd, Nat.reduceSub, Zk, i_slices_Contains_string, c81_0, c81_1, c81_2]
  have key : RunF RR Tryz.prog n_slices_Index_string [.slice o n c z, .str s] σ (fun u σ' => u = .int .i64 (ixInt (fun x => s == x) ss) ∧ σ' = σ) := by
    refine runF_intro hmx rf_slices_Index_string ?_
    simp -implicitDefEqProofs (maxDischargeDepth := 15) only [Yr, Ys, Yt, Wj, Wk, Wm, Wo, opA, Wv, Ww, Wx, Wy, Wz, Za, Zb, List.replicate, Zc, Zd, Ze, Vb, Zf, Zg, Nat.reduceAdd, Nat.reduceSub, Zk, i_slices_Index_string, c76_0, c76_1, c76_2, c76_3, c76_4, c76_5, c76_6, c76_7, c76_8, c76_9, c76_10, c76_11, c76_12]
    refine wp_loop (fun ts σ' m => ∃ k : Nat, σ' = σ ∧ k + m = n ∧ (∀ i x, i < k → ss[i]? = some x → (s == x) = false) ∧ ∃ j2 j3 j5 j9 j10 j11 j12 j13 j14 j15 j16 j17 j18 : AV, ts = [.slice o n c z, .str s, j2, j3, .int .i64 0, j5, .slice o n c z, .int .i64 n, .int .i64 k, j9, j10, j11, j12, j13, j14, j15, j16, j17, j18]) n ⟨0, rfl, by omega, fun i x hi => by omega, _, _, _, _, _, _, _, _, _, _, _, _, _, rfl⟩ ?_
    rintro m ts σ' ⟨k, rfl, hk, hq, j2, j3, j5, j9, j10, j11, j12, j13, j14, j15, j16, j17, j18, rfl⟩
    by_cases hlt : k < n
    · obtain ⟨x, hx⟩ : ∃ x, ss[k]? = some x := ⟨ss[k]'(by omega), List.getElem?_eq_getElem _⟩
      obtain ⟨rfl, i, off, l, w, rfl, hg, hp⟩ := h.elem hx
      have hd : decide ((k : Int) < n) = true := decide_eq_true (by omega)
      have e1 : (0 : Int) ≤ (k : Int) ∧ (k : Int) < (n : Int) := by omega
      cases hqx : (s == x)
      · simp -implicitDefEqProofs (maxDischargeDepth := 15) only [↓reduceIte, Yr, Ys, Yt, Yz, Wa, Wg, Wh, Wj, Wk, Wl, Wm, Wo, Wp, Wq, Wr, Ws, Wt, opA, Wv, Ww, Wx, Wy, Wz, Za, Zb, Vb, partA, binA, and_self, true_and, EndOk, resultA, oneOf, Zz, Yf, eq_self, Yp, e1, hg, hp, hqx, Nat.mul_one]
        refine ⟨m - 1, by omega, k + 1, by omega, fun i y hi hy => ?_, ?_⟩
        · by_cases e : i = k
          · subst e; rw [hx] at hy; cases hy; exact hqx
          · exact hq i y (by omega) hy
        · rw [wrap_i64 (by omega)]
          exact ⟨_, _, _, _, _, _, _, _, _, _, _, _, _, rfl⟩
      · simp -implicitDefEqProofs (maxDischargeDepth := 15) only [↓reduceIte, Yr, Ys, Yt, Yz, Wg, Wh, Wj, Wk, Wl, Wm, Wo, Wp, Wq, Ws, Wt, opA, Wv, Ww, Wx, Wy, Wz, Za, Zb, Vb, partA, binA, and_self, and_true, EndOk, resultA, oneOf, Zz, Yf, eq_self, Yp, e1, hg, hp, hqx, Nat.mul_one]
        have : ss.findIdx? (fun x => s == x) = some k := by
          rw [List.findIdx?_eq_some_iff_getElem]
          refine ⟨by omega, ?_, fun j hj => ?_⟩
          · rw [List.getElem?_eq_getElem (by omega)] at hx; cases hx; exact hqx
          · simpa using hq j _ hj (List.getElem?_eq_getElem (by omega))
        simp [ixInt, this]
    · have hd : decide ((k : Int) < n) = false := decide_eq_false (by omega)
      simp -implicitDefEqProofs (maxDischargeDepth := 15) only [↓reduceIte, Yr, Ys, Yt, Wa, Wh, Wi, Wj, Wk, Wl, Wo, Wp, Wq, Ws, Wt, opA, Wv, Ww, Wx, Wy, Wz, Za, Zb, Vb, binA, and_true, EndOk, resultA, oneOf, Zz, eq_self, hd]
      have : ss.findIdx? (fun x => s == x) = none := by
        rw [List.findIdx?_eq_none_iff]
        intro x hx
        obtain ⟨j, hj, rfl⟩ := List.getElem_of_mem hx
        exact hq j _ (by omega) (List.getElem?_eq_getElem hj)
      simp [ixInt, this]
  refine RunV.to key ?_
  simp -implicitDefEqProofs (maxDischargeDepth := 15) only [↓reduceIte, Yr, Ys, Yt, Wh, Wo, Wu, opA, Wv, Ww, Wx, Wy, Wz, Za, Zb, Vb, binA, and_true, EndOk, resultA, oneOf, Zz, eq_self, ixInt_ge]
  rw [List.contains_eq_any_beq]
end Go.Am
namespace Go.Am
open Go.RowKit Go.Proofs Do
set_option maxRecDepth 100000
def FnB (n : Nat) (q : UInt8 → Bool) : Prop := ∀ (b : UInt8) (σ : AState), RunF RR Tryz.prog n [bI b] σ (fun u σ' => u = .bool (q b) ∧ σ' = σ)
def FnS (n : Nat) (q : Str → Bool) : Prop := ∀ (s : Str) (σ : AState), RunF RR Tryz.prog n [.str s] σ (fun u σ' => u = .bool (q s) ∧ σ' = σ)
theorem bytes_elem {s : Str} {k : Nat} {x : UInt8} (h : s[k]? = some x) : (bytesOf s)[k]? = some (bI x) := by
  simp [bytesOf, h]
theorem bytes_len (s : Str) : (bytesOf s).length = s.length := by simp [bytesOf]
theorem nameS1_ok {n : Nat} {q : UInt8 → Bool} (h : FnB n q) (b : UInt8) (σ : AState) (p : Nat) (hp : σ.get p = some (.cells [.func (.func n) [] []] true)) :
    RunV RR Tryz.prog (.func (.func n_syntax_nameS1) [] [.ptr (some (p, 0))]) [bI b] σ (fun u σ' => u = .bool (!q b) ∧ σ' = σ) := by
  refine runF_intro hmx rf_syntax_nameS1 ?_
  simp -implicitDefEqProofs (maxDischargeDepth := 15) only [Yr, Ys, Yt, Wb, Wj, Wk, Wo, opA, Wv, Ww, Wx, Wy, Wz, Za, Zb, List.replicate, Zc, Zd, Vb, partA, Zf, Zg, Zh, Zi, Nat.reduceAdd, Nat.reduceSub, Zk, Zq, i_syntax_nameS1, c85_0, c85_1, c85_2, hp]
  refine RunV.to (h b σ) ?_
  simp -implicitDefEqProofs (maxDischargeDepth := 15) only [Yr, Ys, Yt, Wh, Wo, Wu, opA, Wv, Wx, Wy, Wz, Za, Zb, Vb, and_self, EndOk, resultA, oneOf, Zz, eq_self]
theorem nameB_cons (first rest : UInt8 → Bool) (c : UInt8) (r : Str) : nameB first rest (c :: r) = (decide ((c :: r).length ≤ 16) && first c && !barred.contains (c :: r) && r.all rest) := rfl
theorem name_ok {n1 n2 : Nat} {q1 q2 : UInt8 → Bool} (h1 : FnB n1 q1) (h2 : FnB n2 q2) (s : Str) (hb : s.length ≤ 4611686018427387904) (σ : AState) :
    RunF RR Tryz.prog n_syntax_name [.str s, .func (.func n1) [] [], .func (.func n2) [] []] σ (fun u σ' => u = .bool (nameB q1 q2 s) ∧ σ' = σ) := by
  refine RunV.wf fun hW => RunV.forget rfl ?_
  refine runF_intro hmx rf_syntax_name ?_
  have hE := sub_push hW (.cells [.func (.func n2) [] []] true)
  cases s with
  | nil =>
    simp -implicitDefEqProofs (maxDischargeDepth := 15) only [↓reduceIte, Yr, Ys, Yt, Yw, Yz, Wd, We, Wh, Wj, Wk, Wl, Wo, Wq, opA, Wv, Ww, Wx, Wy, Wz, Za, Zb, List.replicate, Zc, Zd, Ze, Vb, Vc, Vd, AV.cells, Zf, Zg, Nat.reduceAdd, Nat.reduceSub, Zk, binA, EndOk, resultA, oneOf, Zz, Vu, Vv, eq_self, Vy, i_syntax_name, c26_0, c26_1, c26_2, c26_3, c26_4, c26_5, c26_6, c26_7, Int.ofNat_zero, show decide ((0:Int) < 1) = true from rfl]
    exact ⟨rfl, hE⟩
  | cons c r =>
    have e1 : decide (((c :: r).length : Int) < 1) = false := decide_eq_false (by simp only [List.length_cons]; omega)
    simp only [List.length_cons] at e1
    rw [nameB_cons]
    simp -implicitDefEqProofs (maxDischargeDepth := 15) only [↓reduceIte, Yr, Ys, Yt, Yv, Wd, Wj, Wk, Wo, opA, Wv, Ww, Wx, Wy, Wz, Za, Zb, List.replicate, Zc, Zd, Ze, Vb, Vc, Vd, AV.cells, Zf, Zg, Nat.reduceAdd, Nat.reduceLeDiff, Nat.reduceSub, Zk, binA, Yd, Vu, Vv, Yj, eq_self, i_syntax_name, c26_0, c26_1, c26_2, c26_3, c26_4, c26_5, c26_6, c26_7, e1]
    rcases Nat.lt_or_ge 16 (r.length + 1) with hl | hl
    rotate_left
    · have e2 : decide (((c :: r).length : Int) > 16) = false := decide_eq_false (by simp only [List.length_cons]; omega)
      simp only [List.length_cons] at e2
      simp -implicitDefEqProofs (maxDischargeDepth := 15) only [↓reduceIte, Ys, Yt, Yv, Wb, Wd, We, opA, Wv, Ww, Wx, Wy, Wz, Za, Zb, Vb, Zh, Zi, Zq, Vu, Vv, Yj, Ym, Yn, e2]
      refine RunV.to (h1 c _) ?_
      cases hc : q1 c
      · simp -implicitDefEqProofs (maxDischargeDepth := 15) only [↓reduceIte, Yr, Ys, Yt, Yv, Yw, Yz, Wd, We, Wh, Wj, Wk, Wl, Wo, Wq, Wu, opA, Wv, Ww, Wx, Wy, Wz, Za, Zb, Vb, EndOk, resultA, oneOf, Zz, Yc, Yd, Vu, Vv, Yj, eq_self, Vy]
        exact ⟨by simp, hE⟩
      · simp -implicitDefEqProofs (maxDischargeDepth := 15) only [↓reduceIte, Ys, Yt, Yv, Wb, Wd, We, Wu, opA, Wv, Ww, Wx, Wy, Wz, Za, Zb, Zc, Zd, Ze, Vb, Vc, Vd, AV.cells, Zf, Zg, Zh, Zi, Nat.reduceAdd, Nat.reduceLeDiff, Zj, Zk, Zm, Zn, Zo, Zp, Zs, fillA, Zw, and_self, Yb, Yd, Vu, Vv, Yj, eq_self]
        have hW1 := hW.push (.cells [.func (.func n2) [] []] true)
        have hStr : Strs (((σ.push (.cells [.func (.func n2) [] []] true)).push (.cells [.str [97, 108, 108], .str [115, 111, 109, 101], .str [102, 97, 108, 115, 101], .str [110, 101, 120, 116], .str [97, 108, 119, 97, 121, 115], .str [117, 110, 116, 105, 108]] true))).get (some ((σ.push (.cells [.func (.func n2) [] []] true)).next, 0)) 6 1 barred :=
          .inr ⟨rfl, rfl, _, 0, _, true, rfl, Vg, by simp, rfl⟩
        refine RunV.to (index_strs_ok hStr (by omega) (c :: r)) ?_
        cases hin : barred.contains (c :: r)
        · have e3 : ((1 : Int).toNat ≤ r.length + 1) := by show 1 ≤ r.length + 1; omega
          simp -implicitDefEqProofs (maxDischargeDepth := 15) only [↓reduceIte, Yr, Ys, Yt, Wa, Wb, Wg, Wj, Wk, Wl, Wo, Wu, opA, Wv, Ww, Wx, Wy, Wz, Za, Zb, Vb, Vc, Vd, Zf, Zh, Zi, Nat.reduceLeDiff, Zm, Zn, Zo, Zw, Zz, Yc, Yd, natOf, upTo, bMax, bHigh, bLow, boundsA, evO, List.take_length]
          have hW2 := hW1.push (.cells [.str [97, 108, 108], .str [115, 111, 109, 101], .str [102, 97, 108, 115, 101], .str [110, 101, 120, 116], .str [97, 108, 119, 97, 121, 115], .str [117, 110, 116, 105, 108]] true)
          refine RunV.to (containsFunc_ok hmx (sz := 1) (ld := none) rf_slices_ContainsFunc_byte rf_slices_IndexFunc_byte (xs := r) (q := fun b => !q2 b) rfl (by simp only [List.length_cons] at hb; omega) (.inr rfl) fun k x hx => ⟨bI x, ⟨_, 0, _, _, rfl, Vg, ?_⟩, nameS1_ok h2 x _ _ ?_⟩) ?_
          · simp only [partA, Nat.mul_one, Nat.zero_add]; exact bytes_elem hx
          · rw [Vh (by simp only [AState.push_next]; omega), Vh (by simp only [AState.push_next]; omega), Vg]
          · simp -implicitDefEqProofs (maxDischargeDepth := 15) only [Yr, Ys, Yt, Wh, Wo, Wu, opA, Wv, Wx, Wy, Wz, Za, Zb, Vb, EndOk, resultA, oneOf, Zz]
            refine ⟨?_, fun i b e => sub_push hW2 _ i b (sub_push hW1 _ i b (hE i b e))⟩
            rw [show decide (r.length ≤ 15) = true from decide_eq_true (by omega)]
            simp [List.all_eq_not_any_not]
        · simp -implicitDefEqProofs (maxDischargeDepth := 15) only [↓reduceIte, Yr, Ys, Yt, Yz, Wh, Wj, Wk, Wl, Wo, Wq, Wu, opA, Wv, Ww, Wx, Wy, Wz, Za, Zb, Vb, EndOk, resultA, oneOf, Zz, Yb, Yd]
          exact ⟨by simp, fun i b e => sub_push hW1 _ i b (hE i b e)⟩
    · have e2 : decide (((c :: r).length : Int) > 16) = true := decide_eq_true (by simp only [List.length_cons]; omega)
      simp only [List.length_cons] at e2
      simp -implicitDefEqProofs (maxDischargeDepth := 15) only [↓reduceIte, Yr, Ys, Yt, Yw, Yz, Wd, We, Wh, Wj, Wk, Wl, Wo, Wq, opA, Wv, Ww, Wx, Wy, Wz, Za, Zb, Vb, EndOk, resultA, oneOf, Zz, Vu, Vv, eq_self, Vy, e2]
      exact ⟨by rw [show decide (r.length ≤ 15) = false from decide_eq_false (by omega)]; simp, hE⟩
theorem pred_ok (s : Str) (hb : s.length ≤ 4611686018427387904) (σ : AState) : RunF RR Tryz.prog n_syntax_Predicate [.str s] σ (fun u σ' => u = .bool (predB s) ∧ σ' = σ) := by
  refine runF_intro hmx rf_syntax_Predicate ?_
  simp -implicitDefEqProofs (maxDischargeDepth := 15) only [Yr, Ys, Yt, Wb, Wj, Wk, Wo, opA, Wv, Ww, Wx, Wy, Wz, Za, Zb, List.replicate, Zc, Zd, Ze, Vb, Zf, Zg, Zh, Zi, Nat.reduceSub, Zk, i_syntax_Predicate, c13_0, c13_1, c13_2]
  refine RunV.to (name_ok capital_ok letter_ok s hb σ) ?_
  simp -implicitDefEqProofs (maxDischargeDepth := 15) only [Yr, Ys, Yt, Wh, Wo, Wu, opA, Wv, Wx, Wy, Wz, Za, Zb, Vb, and_self, EndOk, resultA, oneOf, Zz, eq_self, predB]
theorem fun_ok (s : Str) (hb : s.length ≤ 4611686018427387904) (σ : AState) : RunF RR Tryz.prog n_syntax_Function [.str s] σ (fun u σ' => u = .bool (funB s) ∧ σ' = σ) := by
  refine runF_intro hmx rf_syntax_Function ?_
  simp -implicitDefEqProofs (maxDischargeDepth := 15) only [Yr, Ys, Yt, Wb, Wj, Wk, Wo, opA, Wv, Ww, Wx, Wy, Wz, Za, Zb, List.replicate, Zc, Zd, Ze, Vb, Zf, Zg, Zh, Zi, Nat.reduceSub, Zk, i_syntax_Function, c60_0, c60_1, c60_2]
  refine RunV.to (name_ok fnS1_ok letter_ok s hb σ) ?_
  simp -implicitDefEqProofs (maxDischargeDepth := 15) only [Yr, Ys, Yt, Wh, Wo, Wu, opA, Wv, Wx, Wy, Wz, Za, Zb, Vb, and_self, EndOk, resultA, oneOf, Zz, eq_self, funB]
theorem var_ok (s : Str) (hb : s.length ≤ 4611686018427387904) (σ : AState) : RunF RR Tryz.prog n_syntax_Variable [.str s] σ (fun u σ' => u = .bool (varB s) ∧ σ' = σ) := by
  refine runF_intro hmx rf_syntax_Variable ?_
  simp -implicitDefEqProofs (maxDischargeDepth := 15) only [Yr, Ys, Yt, Wb, Wj, Wk, Wo, opA, Wv, Ww, Wx, Wy, Wz, Za, Zb, List.replicate, Zc, Zd, Ze, Vb, Zf, Zg, Zh, Zi, Nat.reduceSub, Zk, i_syntax_Variable, c84_0, c84_1, c84_2]
  refine RunV.to (name_ok varS1_ok digit_ok s hb σ) ?_
  simp -implicitDefEqProofs (maxDischargeDepth := 15) only [Yr, Ys, Yt, Wh, Wo, Wu, opA, Wv, Wx, Wy, Wz, Za, Zb, Vb, and_self, EndOk, resultA, oneOf, Zz, eq_self, varB]
theorem none_ok (s : Str) (σ : AState) : RunF RR Tryz.prog n_syntax_none [.str s] σ (fun u σ' => u = .bool s.isEmpty ∧ σ' = σ) := by
  refine runF_intro hmx rf_syntax_none ?_
  simp -implicitDefEqProofs (maxDischargeDepth := 15) only [Yr, Ys, Yt, Wh, Wj, Wk, Wo, opA, Wv, Ww, Wx, Wy, Wz, Za, Zb, List.replicate, Zc, Zd, Ze, Vb, Zf, Zg, Nat.reduceSub, Zk, binA, and_true, EndOk, resultA, oneOf, Zz, eq_self, i_syntax_none, c20_0, c20_1]
  cases s <;> rfl
mutual
def Do.T.len : T → Nat
  | .mk _ n ar => n.length + T.lens ar
def Do.T.lens : List T → Nat
  | [] => 0
  | t :: r => t.len + T.lens r
end
theorem lens_mem {l : List T} {t : T} (h : t ∈ l) : t.len ≤ T.lens l := by
  induction l with
  | nil => cases h
  | cons a r ih =>
    simp only [T.lens]
    rcases List.mem_cons.1 h with e | e
    · subst e; omega
    · have := ih e; omega
theorem rights_all (l : List T) : T.rights l = !l.any (fun t => !t.right) := by
  induction l with
  | nil => rfl
  | cons a r ih => simp only [T.rights, ih, List.any_cons]; cases a.right <;> simp
theorem term_ok : ∀ (m : Nat) (t : T), t.cnt ≤ m → m ≤ 1152921504606846976 → t.len ≤ 1152921504606846976 → ∀ (σ : AState) (xs : List AV), DAtL σ.get t.dv xs →
    RunF RR Tryz.prog n_syntax_term [.agg xs, .int .i64 0] σ (fun u σ' => u = .bool t.right ∧ σ' = σ) := by
  intro m
  induction m using Nat.strongRecOn with
  | _ m ih =>
  intro t ht hm hlen σ xs hD
  refine RunV.wf fun hW => RunV.forget rfl ?_
  refine runF_intro hmx rf_syntax_term ?_
  obtain ⟨v, nm, ar⟩ := t
  obtain ⟨o1, c1, z1, rfl, hA⟩ := T.cells hD
  simp only [T.cnt] at ht
  simp only [T.len] at hlen
  have hcl := cnts_len ar
  have hW1 := hW.push (.cells [.bool v, .str nm, .slice o1 ar.length c1 z1] true)
  have hE : Sub σ.get ((σ.push (.cells [.bool v, .str nm, .slice o1 ar.length c1 z1] true)).push (.cells [.int .i64 0] true)).get := (sub_push hW _).trans (sub_push hW1 _)
  cases v
  · simp -implicitDefEqProofs (maxDischargeDepth := 15) only [Yr, Ys, Yt, Wa, Wb, Wg, Wj, Wk, Wl, Wo, opA, Wv, Ww, Wx, Wy, Wz, Za, Zb, List.replicate, Zc, Zd, Ze, Vb, Vc, Vd, AV.cells, Vg, Vh, Vi, partA, Zf, Zg, Zh, Zi, Nat.reduceAdd, Nat.reduceSub, Zk, Zl, Zq, Zr, i_syntax_term, c72_0, c72_1, c72_2, c72_3, c72_4, c72_5, c72_6, c72_7, c72_8]
    refine RunV.to (fun_ok nm (by omega) _) ?_
    cases hn : funB nm
    · simp -implicitDefEqProofs (maxDischargeDepth := 15) only [↓reduceIte, Yr, Ys, Yt, Yw, Wd, We, Wh, Wo, Wu, opA, Wv, Ww, Wx, Wy, Wz, Za, Zb, Vb, EndOk, resultA, oneOf, Zz, Yd, Vu, Vv, Vx]
      exact ⟨by simp [T.right, hn], hE⟩
    · cases h4 : decide ((ar.length : Int) ≤ 4)
      · simp -implicitDefEqProofs (maxDischargeDepth := 15) only [↓reduceIte, Yr, Ys, Yt, Yv, Yw, Wd, We, Wh, Wo, Wu, opA, Wv, Ww, Wx, Wy, Wz, Za, Zb, Vb, Vg, Vh, Vi, partA, Zk, Zq, Zr, binA, EndOk, resultA, oneOf, Zz, Yd, Vu, Vv, Yj, eq_self, Vx, h4]
        have : decide (ar.length ≤ 4) = false := by simp only [decide_eq_false_iff_not] at h4 ⊢; omega
        exact ⟨by simp only [T.right, hn, this]; simp, hE⟩
      · have h5 : decide (ar.length ≤ 4) = true := by simp only [decide_eq_true_eq] at h4 ⊢; omega
        simp -implicitDefEqProofs (maxDischargeDepth := 15) only [↓reduceIte, Ys, Yt, Yv, Wb, Wd, We, Wu, opA, Wv, Ww, Wx, Wy, Wz, Za, Zb, Vb, Vg, Vh, Vi, partA, Zh, Zi, Zk, Zq, Zr, binA, Vu, Vv, Yj, eq_self, h4]
        have hA' := hA.sub hE
        refine RunV.to (containsFunc_ok hmx (sz := 3) (ld := some 3) rf_slices_ContainsFunc_api_Term rf_slices_IndexFunc_api_Term (xs := ar) (q := fun t => !t.right) rfl (by omega) hA'.2.1 fun k x hx => ?_) ?_
        · obtain ⟨rfl, i, off, cs, w, rfl, hg, hl3, xs, hxs, hd⟩ := hA'.elem hx
          refine ⟨.agg xs, ⟨i, off, cs, w, rfl, hg, ?_⟩, ?_⟩
          · simp only [partA]; rw [if_pos hl3, hxs]
          · have hxm := List.mem_of_getElem? hx
            have hc := cnts_mem hxm
            have hl := lens_mem hxm
            refine RunV.wf fun hW2 => RunV.forget rfl ?_
            refine runF_intro hmx rf_syntax_termS1 ?_
            have hl : 3 ≤ xs.length := by rw [hd.length, T.dv_len]; omega
            have ht3 : xs.take 3 = xs := List.take_of_length_le (by rw [hd.length, T.dv_len]; omega)
            have hb : (((σ.push (.cells [.bool false, .str nm, .slice (some (i, off)) ar.length c1 3] true)).push (.cells [.int .i64 0] true)).push (.cells xs true)).get (σ.push (.cells [.bool false, .str nm, .slice (some (i, off)) ar.length c1 3] true)).next = some (.cells [.int .i64 0] true) := by
              rw [Vh (by simp only [AState.push_next]; omega), Vg]
            simp -implicitDefEqProofs (maxDischargeDepth := 15) only [↓reduceIte, Yr, Ys, Yt, Wb, Wj, Wk, Wo, opA, Wv, Ww, Wx, Wy, Wz, Za, Zb, List.replicate, Zc, Zd, Vb, Vc, Vd, AV.cells, Vg, Vh, Vi, partA, Zf, Zg, Zh, Zi, Nat.reduceAdd, Nat.reduceSub, Zk, Zm, Zq, i_syntax_termS1, c83_0, c83_1, c83_2, hl, ht3]
            refine RunV.to (ih x.cnt (by omega) x (Nat.le_refl _) (by omega) (by omega) _ _ (DAtL.sub (sub_push hW2 _) _ _ hd)) ?_
            simp -implicitDefEqProofs (maxDischargeDepth := 15) only [Yr, Ys, Yt, Wh, Wo, Wu, opA, Wv, Wx, Wy, Wz, Za, Zb, Vb, true_and, EndOk, resultA, oneOf, Zz, eq_self]
            exact sub_push hW2 _
        · simp -implicitDefEqProofs (maxDischargeDepth := 15) only [↓reduceIte, Yr, Ys, Yt, Yv, Wd, Wh, Wo, Wu, opA, Wv, Wx, Wy, Wz, Za, Zb, Vb, EndOk, resultA, oneOf, Zz, Vu, Vv, Yj, eq_self]
          exact ⟨by simp only [T.right, hn, h5, rights_all]; simp, hE⟩
  · cases h0 : ((ar.length : Int) == 0)
    · simp -implicitDefEqProofs (maxDischargeDepth := 15) only [↓reduceIte, Yr, Ys, Yt, Yw, Yz, Wd, We, Wh, Wj, Wk, Wl, Wo, Wq, opA, Wv, Ww, Wx, Wy, Wz, Za, Zb, List.replicate, Zc, Zd, Ze, Vb, Vc, Vd, AV.cells, Vg, Vh, Vi, partA, Zf, Zg, Nat.reduceAdd, Nat.reduceSub, Zk, Zl, Zq, Zr, binA, EndOk, resultA, oneOf, Zz, Yd, Vu, Vv, Vw, eq_self, Vx, i_syntax_term, c72_0, c72_1, c72_2, c72_3, c72_4, c72_5, c72_6, c72_7, c72_8, h0]
      refine ⟨?_, hE⟩
      have : ar.isEmpty = false := by
        cases ar with
        | nil => simp at h0
        | cons a r => rfl
      simp only [T.right, this]; simp
    · simp -implicitDefEqProofs (maxDischargeDepth := 15) only [↓reduceIte, Yr, Ys, Yt, Yv, Yz, Wb, Wd, We, Wj, Wk, Wl, Wo, opA, Wv, Ww, Wx, Wy, Wz, Za, Zb, List.replicate, Zc, Zd, Ze, Vb, Vc, Vd, AV.cells, Vg, Vh, Vi, partA, Zf, Zg, Zh, Zi, Nat.reduceAdd, Nat.reduceSub, Zk, Zl, Zq, Zr, binA, Vu, Vv, Yj, eq_self, i_syntax_term, c72_0, c72_1, c72_2, c72_3, c72_4, c72_5, c72_6, c72_7, c72_8, h0]
      have h1 : ar.isEmpty = true := by
        cases ar with
        | nil => rfl
        | cons a r => simp at h0; omega
      refine RunV.to (var_ok nm (by omega) _) ?_
      cases hv : varB nm
      · simp -implicitDefEqProofs (maxDischargeDepth := 15) only [↓reduceIte, Yr, Ys, Yt, Yv, Yw, Wd, We, Wh, Wo, Wq, Wu, opA, Wv, Ww, Wx, Wy, Wz, Za, Zb, Vb, Vg, partA, Zq, binA, EndOk, resultA, oneOf, Zz, Yd, Vu, Vv, Yj, eq_self, Vx, show ((0 : Int) == 1) = false from rfl]
        refine ⟨?_, hE⟩
        simp only [T.right, hv]; simp
      · simp -implicitDefEqProofs (maxDischargeDepth := 15) only [↓reduceIte, Yr, Ys, Yt, Yv, Yw, Wd, We, Wh, Wo, Wq, Wu, opA, Wv, Ww, Wx, Wy, Wz, Za, Zb, Vb, EndOk, resultA, oneOf, Zz, Vu, Vv, Vw, Yj, eq_self, Vy]
        refine ⟨?_, hE⟩
        simp only [T.right, h1, hv]; simp
end Go.Am
namespace Go.Am
variable {P : Program}
def TrOk (P : Program) : Tr AFunc → (Nat → Nat) → Prop
  | .nil, _ => True
  | .node v l r, φ => (∀ a, v = some a → resF P (φ 0) = some a) ∧ TrOk P l (fun k => φ (2 * k + 1)) ∧ TrOk P r (fun k => φ (2 * k + 2))
theorem trOk_get : ∀ (t : Tr AFunc) (φ : Nat → Nat), TrOk P t φ → ∀ f a, t.get f = some a → resF P (φ f) = some a
  | .nil, φ, _, f, a, h => by simp [Tr.get_nil] at h
  | .node v l r, φ, ⟨h0, hl, hr⟩, 0, a, h => h0 a (by rw [Tr.get_zero] at h; exact h)
  | .node v l r, φ, ⟨h0, hl, hr⟩, f + 1, a, h => by
    rw [Tr.get_succ] at h
    by_cases e : f % 2 = 0
    · rw [if_pos e] at h
      have := trOk_get l _ hl _ _ h
      simpa [show 2 * (f / 2) + 1 = f + 1 by omega] using this
    · rw [if_neg e] at h
      have := trOk_get r _ hr _ _ h
      simpa [show 2 * (f / 2) + 2 = f + 1 by omega] using this
end Go.Am
namespace Go.Am
open Go.Proofs
set_option maxRecDepth 100000
noncomputable def tabT : Tr AFunc := (.node none (.node none (.node (some i_law41_DescribeOrder) (.node (some i_describe_Form) (.node (some i_law41_variable) (.node (some i_describe_text) (.node (some i_strings_explode) (.node (some i_describe_reader_term) (.node (some i_slices_Clone_int) .nil .nil) .nil) .nil) (.node (some i_describe_fitsS2) (.node (some i_describe_reader_termS1) .nil .nil) (.node (some i_finite_mapped_api_Bind_string) .nil .nil))) (.node (some i_describe_ModelS1) (.node (some i_describe_beginS6) (.node (some i_slices_IndexFunc_api_Term) (.node (some i_trace_rising) .nil .nil) .nil) (.node (some i_holds_structures_valid) .nil .nil)) (.node (some i_stringslite_IndexByte) .nil .nil))) (.node (some i_law41_leaf) (.node (some i_strconv_toError) (.node (some i_describe_beginS2) (.node (some i_syntax_all) .nil .nil) (.node (some i_slices_Equal_api_Fact) .nil .nil)) (.node (some i_slices_ContainsFunc_api_Term) (.node (some i_slices_Index_string) .nil .nil) (.node (some i_slices_IndexFunc_api_Fact) .nil .nil))) (.node (some i_strings_Builder_Grow) (.node (some i_holds_of) (.node (some i_bytealg_hashStr_string) .nil .nil) (.node (some i_slices_ContainsFunc_api_Func) .nil .nil)) (.node (some i_stringslite_Clone) .nil (.node (some i_frame_relation) .nil .nil))))) (.node (some i_strings_Split) (.node (some i_describe_Read) (.node (some i_istrconv_Itoa) (.node (some i_strconv_rangeError) (.node (some i_strings_ContainsFunc) (.node (some i_frame_missing) .nil .nil) .nil) (.node (some i_holds_valuations_valid) .nil .nil)) (.node (some i_syntax_Depth) (.node (some i_syntax_termsS1) .nil .nil) (.node (some i_finite_Sig_soundS1) .nil .nil))) (.node (some i_law30_term) (.node (some i_describe_term) (.node (some i_istrconv_bool2_int) .nil .nil) (.node (some i_finite_ValidS1) .nil .nil)) (.node (some i_utf8_RuneCountInString) .nil .nil))) (.node (some i_describe_whole) (.node (some i_describe_OutlineS1) (.node (some i_describe_reader_word) (.node (some i_syntax_ofForms) .nil .nil) .nil) (.node (some i_istrconv_small) .nil (.node (some i_cmp_Compare_int) .nil .nil))) (.node (some i_syntax_shape) (.node (some i_law30_apply) (.node (some i_slices_Contains_string) .nil .nil) (.node (some i_finite_mapped_api_Fact_syntax_Symbol) .nil .nil)) (.node (some i_syntax_VariableS1) .nil (.node (some i_frame_ValidS1) .nil .nil)))))) (.node (some i_law41_Proved) (.node (some i_strconv_Itoa) (.node (some i_law41_bound) (.node (some i_syntax_Right) (.node (some i_istrconv_ParseInt) (.node (some i_istrconv_FormatBool) (.node (some i_slices_Index_int) .nil .nil) .nil) .nil) (.node (some i_strings_Builder_grow) (.node (some i_syntax_allS1) .nil .nil) (.node (some i_finite_rising_syntax_Symbol) .nil .nil))) (.node (some i_describe_bits) (.node (some i_syntax_Predicate) (.node (some i_istrconv_log10Pow2) (.node (some i_trace_ValidS1) .nil .nil) .nil) (.node (some i_finite_signature) .nil .nil)) (.node (some i_bytealg_Cutover) .nil (.node (some i_holds_worlds_ops) .nil .nil)))) (.node (some i_kit_SameTexts) (.node (some i_describe_begin) (.node (some i_describe_patterns) (.node (some i_syntax_high) .nil .nil) .nil) (.node (some i_slices_ContainsFunc_api_Form) (.node (some i_strings_indexFunc) .nil .nil) (.node (some i_slices_IndexFunc_api_Bind) .nil .nil))) (.node (some i_strings_Builder_String) (.node (some i_strconv_FormatBool) (.node (some i_istrconv_lower) .nil .nil) (.node (some i_slices_ContainsFunc_api_Bind) .nil .nil)) (.node (some i_describe_reader_wordS1) .nil (.node (some i_frame_names) .nil .nil))))) (.node (some i_strings_Contains) (.node (some i_describe_Claim) (.node (some i_strings_genSplit) (.node (some i_strconv_bitSizeError) (.node none (.node (some i_frame_missingS2) .nil .nil) .nil) (.node (some i_holds_names) .nil .nil)) (.node (some i_syntax_term) (.node (some i_bits_TrailingZeros32) .nil .nil) (.node (some i_finite_rising_string) .nil .nil))) (.node (some i_law30_bound) (.node (some i_describe_headS1) (.node (some i_bits_TrailingZeros) .nil .nil) (.node (some i_finite_ValidS2) .nil .nil)) (.node none .nil (.node (some i_frame_Valid) .nil .nil)))) (.node (some i_describe_join) (.node (some i_slices_Concat_api_Form) (.node (some i_describe_beginS5S1) (.node (some i_syntax_termS1) (.node (some i_holds_traces_valid) .nil .nil) .nil) .nil) (.node (some i_istrconv_formatBase10) .nil (.node (some i_cmp_isNaN_int) .nil .nil))) (.node (some i_istrconv_FormatInt) (.node (some i_describe_name) (.node (some i_syntax_nameS1) .nil .nil) (.node (some i_finite_mapped_api_Func_syntax_Symbol) .nil .nil)) (.node (some i_syntax_capital) .nil (.node (some i_frame_masks) .nil .nil))))))) (.node (some i_gosem_cut_init) (.node (some i_law41_awake) (.node (some i_strings_CutPrefix) (.node (some i_law41_join) (.node none (.node (some i_strings_Count) (.node (some i_holds_kinds) (.node (some i_frame_relationS1) .nil .nil) .nil) (.node (some i_holds_valuations_ops) .nil .nil)) (.node (some i_strings_Builder_copyCheck) (.node (some i_strings_IndexFunc) .nil .nil) (.node (some i_finite_signatureS3) .nil .nil))) (.node (some i_describe_fact) (.node (some i_describe_reader_formS1) (.node (some i_slices_IndexFunc_api_Form) (.node (some i_trace_names) .nil .nil) .nil) (.node (some i_finite_Valid) .nil .nil)) .nil)) (.node (some i_describe_Model) (.node (some i_strings_Index) (.node (some i_describe_beginS3) (.node (some i_syntax_terms) .nil .nil) (.node (some i_truth_check) .nil .nil)) (.node (some i_syntax_shapeS1) (.node (some i_slices_IndexFunc_byte) .nil .nil) (.node (some i_slices_IndexFunc_api_Func) .nil .nil))) (.node (some i_strings_Builder_WriteString) (.node (some i_describe_pairs) (.node (some i_utf8_decodeRuneInStringSlow) .nil .nil) (.node (some i_finite_ValidS3) .nil .nil)) (.node (some i_errors_New) .nil (.node (some i_frame_rising) .nil .nil))))) (.node (some i_strconv_Atoi) (.node (some i_describe_Outline) (.node (some i_stringslite_Cut) (.node (some i_strconv_baseError) (.node (some i_slices_IndexFunc_int) (.node (some i_frame_missingS1) .nil .nil) .nil) (.node (some i_truth_Model) .nil .nil)) (.node (some i_syntax_rows) (.node (some i_syntax_FunctionS1) .nil .nil) (.node (some i_finite_Sig_soundS2) .nil .nil))) (.node (some i_law30_join) (.node (some i_slices_IndexFunc_describe_pattern) (.node (some i_istrconv_isPowerOfTwo) .nil .nil) (.node (some i_slices_ContainsFunc_api_Fact) .nil .nil)) (.node (some i_utf8_DecodeRuneInString) .nil (.node (some i_holds_worlds_valid) .nil .nil)))) (.node (some i_describe_ProofS1) (.node (some i_describe_head) (.node (some i_describe_beginS5) (.node (some i_syntax_Function) .nil .nil) (.node (some i_holds_structures_ops) .nil .nil)) (.node (some i_istrconv_numDigits) .nil (.node (some i_cmp_isNaN_string) .nil .nil))) (.node (some i_stringslite_HasPrefix) (.node (some i_describe_fitsS1) (.node (some i_slices_ContainsFunc_byte) (.node (some i_gosem_cut_vars) .nil .nil) .nil) (.node (some i_finite_signatureS1) .nil .nil)) (.node (some i_syntax_digit) .nil (.node (some i_slices_Contains_int) .nil .nil)))))) (.node (some i_describe_Proof) (.node (some i_strings_Cut) (.node (some i_law41_apply) (.node (some i_stringslite_CutPrefix) (.node (some i_strconv_syntaxError) (.node (some i_describe_nameS1) (.node (some i_frame_reach) .nil .nil) .nil) .nil) (.node (some i_syntax_Nodes) (.node (some i_syntax_every) .nil .nil) (.node (some i_finite_bySymbol) .nil .nil))) (.node (some i_law30_atom) (.node (some i_describe_reader_args) (.node (some i_bits_Len64) .nil .nil) (.node (some i_finite_Sig_sound) .nil .nil)) (.node (some i_bytealg_IndexRabinKarp_string) .nil .nil))) (.node (some i_law30_Built) (.node (some i_describe_reader_form) (.node (some i_describe_beginS4) (.node (some i_syntax_none) (.node (some i_holds_traces_ops) .nil .nil) .nil) .nil) (.node (some i_syntax_shapeS2) .nil (.node (some i_cmp_Or_int) .nil .nil))) (.node (some i_syntax_fits) (.node (some i_law30_variable) (.node (some i_istrconv_underscoreOK) .nil .nil) (.node (some i_finite_ValidS4) .nil .nil)) (.node (some i_syntax_name) .nil (.node (some i_frame_ordered) .nil .nil))))) (.node (some i_law41_atom) (.node (some i_law41_step) (.node (some i_istrconv_Atoi) (.node (some i_describe_beginS1) (.node none (.node (some i_frame_missingS3) .nil .nil) .nil) (.node (some i_holds_valuations_number) .nil .nil)) (.node (some i_syntax_ofTerms) (.node (some i_bits_TrailingZeros64) .nil .nil) (.node (some i_cmp_Compare_string) .nil .nil))) (.node (some i_describe_fits) (.node (some i_slices_Grow_api_Form) .nil (.node (some i_finite_tuples) .nil .nil)) (.node (some i_istrconv_ParseUint) .nil (.node (some i_frame_Fits) .nil .nil)))) (.node (some i_describe_list) (.node (some i_holds_Valid) (.node (some i_syntax_Variable) (.node (some i_syntax_meta) (.node (some i_trace_Valid) .nil .nil) .nil) .nil) (.node (some i_istrconv_formatBits) .nil .nil)) (.node (some i_stringslite_Index) (.node (some i_slices_ContainsFunc_int) (.node (some i_syntax_small) .nil .nil) (.node (some i_finite_signatureS2) .nil .nil)) (.node (some i_syntax_letter) .nil (.node (some i_frame_grow) .nil .nil))))))))
theorem tabOk : TrOk Go.Proofs.Tryz.prog tabT id := ⟨(by intro a h; cases h), ⟨(by intro a h; cases h), ⟨(by intro a h; cases h; exact rf_law41_DescribeOrder), ⟨(by intro a h; cases h; exact rf_describe_Form), ⟨(by intro a h; cases h; exact rf_law41_variable), ⟨(by intro a h; cases h; exact rf_describe_text), ⟨(by intro a h; cases h; exact rf_strings_explode), ⟨(by intro a h; cases h; exact rf_describe_reader_term), ⟨(by intro a h; cases h; exact rf_slices_Clone_int), trivial, trivial⟩, trivial⟩, trivial⟩, ⟨(by intro a h; cases h; exact rf_describe_fitsS2), ⟨(by intro a h; cases h; exact rf_describe_reader_termS1), trivial, trivial⟩, ⟨(by intro a h; cases h; exact rf_finite_mapped_api_Bind_string), trivial, trivial⟩⟩⟩, ⟨(by intro a h; cases h; exact rf_describe_ModelS1), ⟨(by intro a h; cases h; exact rf_describe_beginS6), ⟨(by intro a h; cases h; exact rf_slices_IndexFunc_api_Term), ⟨(by intro a h; cases h; exact rf_trace_rising), trivial, trivial⟩, trivial⟩, ⟨(by intro a h; cases h; exact rf_holds_structures_valid), trivial, trivial⟩⟩, ⟨(by intro a h; cases h; exact rf_stringslite_IndexByte), trivial, trivial⟩⟩⟩, ⟨(by intro a h; cases h; exact rf_law41_leaf), ⟨(by intro a h; cases h; exact rf_strconv_toError), ⟨(by intro a h; cases h; exact rf_describe_beginS2), ⟨(by intro a h; cases h; exact rf_syntax_all), trivial, trivial⟩, ⟨(by intro a h; cases h; exact rf_slices_Equal_api_Fact), trivial, trivial⟩⟩, ⟨(by intro a h; cases h; exact rf_slices_ContainsFunc_api_Term), ⟨(by intro a h; cases h; exact rf_slices_Index_string), trivial, trivial⟩, ⟨(by intro a h; cases h; exact rf_slices_IndexFunc_api_Fact), trivial, trivial⟩⟩⟩, ⟨(by intro a h; cases h; exact rf_strings_Builder_Grow), ⟨(by intro a h; cases h; exact rf_holds_of), ⟨(by intro a h; cases h; exact rf_bytealg_hashStr_string), trivial, trivial⟩, ⟨(by intro a h; cases h; exact rf_slices_ContainsFunc_api_Func), trivial, trivial⟩⟩, ⟨(by intro a h; cases h; exact rf_stringslite_Clone), trivial, ⟨(by intro a h; cases h; exact rf_frame_relation), trivial, trivial⟩⟩⟩⟩⟩, ⟨(by intro a h; cases h; exact rf_strings_Split), ⟨(by intro a h; cases h; exact rf_describe_Read), ⟨(by intro a h; cases h; exact rf_istrconv_Itoa), ⟨(by intro a h; cases h; exact rf_strconv_rangeError), ⟨(by intro a h; cases h; exact rf_strings_ContainsFunc), ⟨(by intro a h; cases h; exact rf_frame_missing), trivial, trivial⟩, trivial⟩, ⟨(by intro a h; cases h; exact rf_holds_valuations_valid), trivial, trivial⟩⟩, ⟨(by intro a h; cases h; exact rf_syntax_Depth), ⟨(by intro a h; cases h; exact rf_syntax_termsS1), trivial, trivial⟩, ⟨(by intro a h; cases h; exact rf_finite_Sig_soundS1), trivial, trivial⟩⟩⟩, ⟨(by intro a h; cases h; exact rf_law30_term), ⟨(by intro a h; cases h; exact rf_describe_term), ⟨(by intro a h; cases h; exact rf_istrconv_bool2_int), trivial, trivial⟩, ⟨(by intro a h; cases h; exact rf_finite_ValidS1), trivial, trivial⟩⟩, ⟨(by intro a h; cases h; exact rf_utf8_RuneCountInString), trivial, trivial⟩⟩⟩, ⟨(by intro a h; cases h; exact rf_describe_whole), ⟨(by intro a h; cases h; exact rf_describe_OutlineS1), ⟨(by intro a h; cases h; exact rf_describe_reader_word), ⟨(by intro a h; cases h; exact rf_syntax_ofForms), trivial, trivial⟩, trivial⟩, ⟨(by intro a h; cases h; exact rf_istrconv_small), trivial, ⟨(by intro a h; cases h; exact rf_cmp_Compare_int), trivial, trivial⟩⟩⟩, ⟨(by intro a h; cases h; exact rf_syntax_shape), ⟨(by intro a h; cases h; exact rf_law30_apply), ⟨(by intro a h; cases h; exact rf_slices_Contains_string), trivial, trivial⟩, ⟨(by intro a h; cases h; exact rf_finite_mapped_api_Fact_syntax_Symbol), trivial, trivial⟩⟩, ⟨(by intro a h; cases h; exact rf_syntax_VariableS1), trivial, ⟨(by intro a h; cases h; exact rf_frame_ValidS1), trivial, trivial⟩⟩⟩⟩⟩⟩, ⟨(by intro a h; cases h; exact rf_law41_Proved), ⟨(by intro a h; cases h; exact rf_strconv_Itoa), ⟨(by intro a h; cases h; exact rf_law41_bound), ⟨(by intro a h; cases h; exact rf_syntax_Right), ⟨(by intro a h; cases h; exact rf_istrconv_ParseInt), ⟨(by intro a h; cases h; exact rf_istrconv_FormatBool), ⟨(by intro a h; cases h; exact rf_slices_Index_int), trivial, trivial⟩, trivial⟩, trivial⟩, ⟨(by intro a h; cases h; exact rf_strings_Builder_grow), ⟨(by intro a h; cases h; exact rf_syntax_allS1), trivial, trivial⟩, ⟨(by intro a h; cases h; exact rf_finite_rising_syntax_Symbol), trivial, trivial⟩⟩⟩, ⟨(by intro a h; cases h; exact rf_describe_bits), ⟨(by intro a h; cases h; exact rf_syntax_Predicate), ⟨(by intro a h; cases h; exact rf_istrconv_log10Pow2), ⟨(by intro a h; cases h; exact rf_trace_ValidS1), trivial, trivial⟩, trivial⟩, ⟨(by intro a h; cases h; exact rf_finite_signature), trivial, trivial⟩⟩, ⟨(by intro a h; cases h; exact rf_bytealg_Cutover), trivial, ⟨(by intro a h; cases h; exact rf_holds_worlds_ops), trivial, trivial⟩⟩⟩⟩, ⟨(by intro a h; cases h; exact rf_kit_SameTexts), ⟨(by intro a h; cases h; exact rf_describe_begin), ⟨(by intro a h; cases h; exact rf_describe_patterns), ⟨(by intro a h; cases h; exact rf_syntax_high), trivial, trivial⟩, trivial⟩, ⟨(by intro a h; cases h; exact rf_slices_ContainsFunc_api_Form), ⟨(by intro a h; cases h; exact rf_strings_indexFunc), trivial, trivial⟩, ⟨(by intro a h; cases h; exact rf_slices_IndexFunc_api_Bind), trivial, trivial⟩⟩⟩, ⟨(by intro a h; cases h; exact rf_strings_Builder_String), ⟨(by intro a h; cases h; exact rf_strconv_FormatBool), ⟨(by intro a h; cases h; exact rf_istrconv_lower), trivial, trivial⟩, ⟨(by intro a h; cases h; exact rf_slices_ContainsFunc_api_Bind), trivial, trivial⟩⟩, ⟨(by intro a h; cases h; exact rf_describe_reader_wordS1), trivial, ⟨(by intro a h; cases h; exact rf_frame_names), trivial, trivial⟩⟩⟩⟩⟩, ⟨(by intro a h; cases h; exact rf_strings_Contains), ⟨(by intro a h; cases h; exact rf_describe_Claim), ⟨(by intro a h; cases h; exact rf_strings_genSplit), ⟨(by intro a h; cases h; exact rf_strconv_bitSizeError), ⟨(by intro a h; cases h), ⟨(by intro a h; cases h; exact rf_frame_missingS2), trivial, trivial⟩, trivial⟩, ⟨(by intro a h; cases h; exact rf_holds_names), trivial, trivial⟩⟩, ⟨(by intro a h; cases h; exact rf_syntax_term), ⟨(by intro a h; cases h; exact rf_bits_TrailingZeros32), trivial, trivial⟩, ⟨(by intro a h; cases h; exact rf_finite_rising_string), trivial, trivial⟩⟩⟩, ⟨(by intro a h; cases h; exact rf_law30_bound), ⟨(by intro a h; cases h; exact rf_describe_headS1), ⟨(by intro a h; cases h; exact rf_bits_TrailingZeros), trivial, trivial⟩, ⟨(by intro a h; cases h; exact rf_finite_ValidS2), trivial, trivial⟩⟩, ⟨(by intro a h; cases h), trivial, ⟨(by intro a h; cases h; exact rf_frame_Valid), trivial, trivial⟩⟩⟩⟩, ⟨(by intro a h; cases h; exact rf_describe_join), ⟨(by intro a h; cases h; exact rf_slices_Concat_api_Form), ⟨(by intro a h; cases h; exact rf_describe_beginS5S1), ⟨(by intro a h; cases h; exact rf_syntax_termS1), ⟨(by intro a h; cases h; exact rf_holds_traces_valid), trivial, trivial⟩, trivial⟩, trivial⟩, ⟨(by intro a h; cases h; exact rf_istrconv_formatBase10), trivial, ⟨(by intro a h; cases h; exact rf_cmp_isNaN_int), trivial, trivial⟩⟩⟩, ⟨(by intro a h; cases h; exact rf_istrconv_FormatInt), ⟨(by intro a h; cases h; exact rf_describe_name), ⟨(by intro a h; cases h; exact rf_syntax_nameS1), trivial, trivial⟩, ⟨(by intro a h; cases h; exact rf_finite_mapped_api_Func_syntax_Symbol), trivial, trivial⟩⟩, ⟨(by intro a h; cases h; exact rf_syntax_capital), trivial, ⟨(by intro a h; cases h; exact rf_frame_masks), trivial, trivial⟩⟩⟩⟩⟩⟩⟩, ⟨(by intro a h; cases h; exact rf_gosem_cut_init), ⟨(by intro a h; cases h; exact rf_law41_awake), ⟨(by intro a h; cases h; exact rf_strings_CutPrefix), ⟨(by intro a h; cases h; exact rf_law41_join), ⟨(by intro a h; cases h), ⟨(by intro a h; cases h; exact rf_strings_Count), ⟨(by intro a h; cases h; exact rf_holds_kinds), ⟨(by intro a h; cases h; exact rf_frame_relationS1), trivial, trivial⟩, trivial⟩, ⟨(by intro a h; cases h; exact rf_holds_valuations_ops), trivial, trivial⟩⟩, ⟨(by intro a h; cases h; exact rf_strings_Builder_copyCheck), ⟨(by intro a h; cases h; exact rf_strings_IndexFunc), trivial, trivial⟩, ⟨(by intro a h; cases h; exact rf_finite_signatureS3), trivial, trivial⟩⟩⟩, ⟨(by intro a h; cases h; exact rf_describe_fact), ⟨(by intro a h; cases h; exact rf_describe_reader_formS1), ⟨(by intro a h; cases h; exact rf_slices_IndexFunc_api_Form), ⟨(by intro a h; cases h; exact rf_trace_names), trivial, trivial⟩, trivial⟩, ⟨(by intro a h; cases h; exact rf_finite_Valid), trivial, trivial⟩⟩, trivial⟩⟩, ⟨(by intro a h; cases h; exact rf_describe_Model), ⟨(by intro a h; cases h; exact rf_strings_Index), ⟨(by intro a h; cases h; exact rf_describe_beginS3), ⟨(by intro a h; cases h; exact rf_syntax_terms), trivial, trivial⟩, ⟨(by intro a h; cases h; exact rf_truth_check), trivial, trivial⟩⟩, ⟨(by intro a h; cases h; exact rf_syntax_shapeS1), ⟨(by intro a h; cases h; exact rf_slices_IndexFunc_byte), trivial, trivial⟩, ⟨(by intro a h; cases h; exact rf_slices_IndexFunc_api_Func), trivial, trivial⟩⟩⟩, ⟨(by intro a h; cases h; exact rf_strings_Builder_WriteString), ⟨(by intro a h; cases h; exact rf_describe_pairs), ⟨(by intro a h; cases h; exact rf_utf8_decodeRuneInStringSlow), trivial, trivial⟩, ⟨(by intro a h; cases h; exact rf_finite_ValidS3), trivial, trivial⟩⟩, ⟨(by intro a h; cases h; exact rf_errors_New), trivial, ⟨(by intro a h; cases h; exact rf_frame_rising), trivial, trivial⟩⟩⟩⟩⟩, ⟨(by intro a h; cases h; exact rf_strconv_Atoi), ⟨(by intro a h; cases h; exact rf_describe_Outline), ⟨(by intro a h; cases h; exact rf_stringslite_Cut), ⟨(by intro a h; cases h; exact rf_strconv_baseError), ⟨(by intro a h; cases h; exact rf_slices_IndexFunc_int), ⟨(by intro a h; cases h; exact rf_frame_missingS1), trivial, trivial⟩, trivial⟩, ⟨(by intro a h; cases h; exact rf_truth_Model), trivial, trivial⟩⟩, ⟨(by intro a h; cases h; exact rf_syntax_rows), ⟨(by intro a h; cases h; exact rf_syntax_FunctionS1), trivial, trivial⟩, ⟨(by intro a h; cases h; exact rf_finite_Sig_soundS2), trivial, trivial⟩⟩⟩, ⟨(by intro a h; cases h; exact rf_law30_join), ⟨(by intro a h; cases h; exact rf_slices_IndexFunc_describe_pattern), ⟨(by intro a h; cases h; exact rf_istrconv_isPowerOfTwo), trivial, trivial⟩, ⟨(by intro a h; cases h; exact rf_slices_ContainsFunc_api_Fact), trivial, trivial⟩⟩, ⟨(by intro a h; cases h; exact rf_utf8_DecodeRuneInString), trivial, ⟨(by intro a h; cases h; exact rf_holds_worlds_valid), trivial, trivial⟩⟩⟩⟩, ⟨(by intro a h; cases h; exact rf_describe_ProofS1), ⟨(by intro a h; cases h; exact rf_describe_head), ⟨(by intro a h; cases h; exact rf_describe_beginS5), ⟨(by intro a h; cases h; exact rf_syntax_Function), trivial, trivial⟩, ⟨(by intro a h; cases h; exact rf_holds_structures_ops), trivial, trivial⟩⟩, ⟨(by intro a h; cases h; exact rf_istrconv_numDigits), trivial, ⟨(by intro a h; cases h; exact rf_cmp_isNaN_string), trivial, trivial⟩⟩⟩, ⟨(by intro a h; cases h; exact rf_stringslite_HasPrefix), ⟨(by intro a h; cases h; exact rf_describe_fitsS1), ⟨(by intro a h; cases h; exact rf_slices_ContainsFunc_byte), ⟨(by intro a h; cases h; exact rf_gosem_cut_vars), trivial, trivial⟩, trivial⟩, ⟨(by intro a h; cases h; exact rf_finite_signatureS1), trivial, trivial⟩⟩, ⟨(by intro a h; cases h; exact rf_syntax_digit), trivial, ⟨(by intro a h; cases h; exact rf_slices_Contains_int), trivial, trivial⟩⟩⟩⟩⟩⟩, ⟨(by intro a h; cases h; exact rf_describe_Proof), ⟨(by intro a h; cases h; exact rf_strings_Cut), ⟨(by intro a h; cases h; exact rf_law41_apply), ⟨(by intro a h; cases h; exact rf_stringslite_CutPrefix), ⟨(by intro a h; cases h; exact rf_strconv_syntaxError), ⟨(by intro a h; cases h; exact rf_describe_nameS1), ⟨(by intro a h; cases h; exact rf_frame_reach), trivial, trivial⟩, trivial⟩, trivial⟩, ⟨(by intro a h; cases h; exact rf_syntax_Nodes), ⟨(by intro a h; cases h; exact rf_syntax_every), trivial, trivial⟩, ⟨(by intro a h; cases h; exact rf_finite_bySymbol), trivial, trivial⟩⟩⟩, ⟨(by intro a h; cases h; exact rf_law30_atom), ⟨(by intro a h; cases h; exact rf_describe_reader_args), ⟨(by intro a h; cases h; exact rf_bits_Len64), trivial, trivial⟩, ⟨(by intro a h; cases h; exact rf_finite_Sig_sound), trivial, trivial⟩⟩, ⟨(by intro a h; cases h; exact rf_bytealg_IndexRabinKarp_string), trivial, trivial⟩⟩⟩, ⟨(by intro a h; cases h; exact rf_law30_Built), ⟨(by intro a h; cases h; exact rf_describe_reader_form), ⟨(by intro a h; cases h; exact rf_describe_beginS4), ⟨(by intro a h; cases h; exact rf_syntax_none), ⟨(by intro a h; cases h; exact rf_holds_traces_ops), trivial, trivial⟩, trivial⟩, trivial⟩, ⟨(by intro a h; cases h; exact rf_syntax_shapeS2), trivial, ⟨(by intro a h; cases h; exact rf_cmp_Or_int), trivial, trivial⟩⟩⟩, ⟨(by intro a h; cases h; exact rf_syntax_fits), ⟨(by intro a h; cases h; exact rf_law30_variable), ⟨(by intro a h; cases h; exact rf_istrconv_underscoreOK), trivial, trivial⟩, ⟨(by intro a h; cases h; exact rf_finite_ValidS4), trivial, trivial⟩⟩, ⟨(by intro a h; cases h; exact rf_syntax_name), trivial, ⟨(by intro a h; cases h; exact rf_frame_ordered), trivial, trivial⟩⟩⟩⟩⟩, ⟨(by intro a h; cases h; exact rf_law41_atom), ⟨(by intro a h; cases h; exact rf_law41_step), ⟨(by intro a h; cases h; exact rf_istrconv_Atoi), ⟨(by intro a h; cases h; exact rf_describe_beginS1), ⟨(by intro a h; cases h), ⟨(by intro a h; cases h; exact rf_frame_missingS3), trivial, trivial⟩, trivial⟩, ⟨(by intro a h; cases h; exact rf_holds_valuations_number), trivial, trivial⟩⟩, ⟨(by intro a h; cases h; exact rf_syntax_ofTerms), ⟨(by intro a h; cases h; exact rf_bits_TrailingZeros64), trivial, trivial⟩, ⟨(by intro a h; cases h; exact rf_cmp_Compare_string), trivial, trivial⟩⟩⟩, ⟨(by intro a h; cases h; exact rf_describe_fits), ⟨(by intro a h; cases h; exact rf_slices_Grow_api_Form), trivial, ⟨(by intro a h; cases h; exact rf_finite_tuples), trivial, trivial⟩⟩, ⟨(by intro a h; cases h; exact rf_istrconv_ParseUint), trivial, ⟨(by intro a h; cases h; exact rf_frame_Fits), trivial, trivial⟩⟩⟩⟩, ⟨(by intro a h; cases h; exact rf_describe_list), ⟨(by intro a h; cases h; exact rf_holds_Valid), ⟨(by intro a h; cases h; exact rf_syntax_Variable), ⟨(by intro a h; cases h; exact rf_syntax_meta), ⟨(by intro a h; cases h; exact rf_trace_Valid), trivial, trivial⟩, trivial⟩, trivial⟩, ⟨(by intro a h; cases h; exact rf_istrconv_formatBits), trivial, trivial⟩⟩, ⟨(by intro a h; cases h; exact rf_stringslite_Index), ⟨(by intro a h; cases h; exact rf_slices_ContainsFunc_int), ⟨(by intro a h; cases h; exact rf_syntax_small), trivial, trivial⟩, ⟨(by intro a h; cases h; exact rf_finite_signatureS2), trivial, trivial⟩⟩, ⟨(by intro a h; cases h; exact rf_syntax_letter), trivial, ⟨(by intro a h; cases h; exact rf_frame_grow), trivial, trivial⟩⟩⟩⟩⟩⟩⟩⟩
end Go.Am
namespace Go.Am.Do
mutual
def T.tiny : T → Prop
  | .mk _ n az => n.length ≤ 1 ∧ T.tinys az
def T.tinys : List T → Prop
  | [] => True
  | t :: r => t.tiny ∧ T.tinys r
end
mutual
def F.tiny : F → Prop
  | .mk op n az l => op < 256 ∧ n.length ≤ 1 ∧ T.tinys az ∧ F.tinys l
def F.tinys : List F → Prop
  | [] => True
  | f :: r => f.tiny ∧ F.tinys r
end
theorem tinys_all {l : List F} (h : ∀ f ∈ l, f.tiny) : F.tinys l := by
  induction l with
  | nil => trivial
  | cons f r ih => exact ⟨h f (by simp), ih fun g hg => h g (List.mem_cons_of_mem _ hg)⟩
theorem jn_length (x : Str) (r : List Str) (s : Str) : (jn (x :: r) s).length = x.length + (r.map (fun y => s.length + y.length)).sum := by
  induction r generalizing x with
  | nil => simp [jn_one]
  | cons y r ih => rw [jn_cons2]; simp only [List.length_append, ih, List.map_cons, List.sum_cons]; omega
mutual
theorem T.txt_len : ∀ t : T, t.tiny → t.txt.length + 5 ≤ 16 * t.cnt
  | .mk _ n [], h => by simp only [T.tiny] at h; simp only [T.txt, T.cnt, T.cnts]; omega
  | .mk _ n (a :: az), h => by
    simp only [T.tiny, T.tinys] at h
    have h1 := T.txt_len a h.2.1
    have h2 := T.txts_len az h.2.2
    simp only [T.txt, T.cnt, T.cnts]
    rw [jn_length, jn_and]
    simp only [List.map_cons, List.map_nil, List.sum_cons, List.sum_nil, List.length_append, List.length_cons, List.length_nil]
    omega
theorem T.txts_len : ∀ l : List T, T.tinys l → ((T.txts l).map (sAnd ++ ·)).flatten.length ≤ 16 * T.cnts l
  | [], _ => by simp [T.txts, T.cnts]
  | t :: r, h => by
    simp only [T.tinys] at h
    have h1 := T.txt_len t h.1
    have h2 := T.txts_len r h.2
    simp only [T.txts, T.cnts, List.map_cons, List.flatten_cons, List.length_append, List.length_cons, List.length_nil]
    omega
end
theorem headTxt_len {n : Str} {az : List T} (hn : n.length ≤ 1) (h : T.tinys az) : (headTxt n az).length ≤ 16 * (T.cnts az + 1) := by
  cases az with
  | nil => simp only [headTxt, T.cnts]; omega
  | cons a r =>
    have := T.txt_len (.mk false n (a :: r)) (by simp only [T.tiny]; exact ⟨hn, h⟩)
    simp only [T.txt, T.cnt] at this
    simp only [headTxt, T.txts]
    omega
theorem pat_len (op : Nat) : (pat op).1.length ≤ 11 ∧ (pat op).2.length ≤ 5 := by
  unfold pat
  split
  · rename_i p h
    have := List.mem_of_find?_eq_some h
    have key : ∀ p ∈ pats, p.2.1.length ≤ 11 ∧ p.2.2.length ≤ 5 := by decide
    exact key p this
  · simp
theorem F.head_len {op : Nat} {n : Str} {az : List T} {l : List F} (h : (F.mk op n az l).tiny) : (F.mk op n az l).head.1.length ≤ 16 * (T.cnts az + 1) ∧ (F.mk op n az l).head.2.length ≤ 5 := by
  simp only [F.tiny] at h
  simp only [F.head]
  have hp := pat_len op
  split
  · exact ⟨headTxt_len h.2.1 h.2.2.1, by simp⟩
  · split
    · rw [jn_length]
      simp only [List.map_cons, List.map_nil, List.sum_cons, List.sum_nil, List.length_cons, List.length_nil]
      omega
    · split
      · rw [jn_length]
        simp only [List.map_cons, List.map_nil, List.sum_cons, List.sum_nil, List.length_cons, List.length_nil]
        omega
      · omega
mutual
theorem F.txt_len : ∀ f : F, f.tiny → f.txt.length ≤ 40 * f.nodes
  | .mk op n az [], h => by
    have := F.head_len h
    simp only [F.txt, F.txts, F.nodes, F.nodess]; omega
  | .mk op n az [a], h => by
    have h1 := F.head_len h
    simp only [F.tiny, F.tinys] at h
    have h2 := F.txt_len a h.2.2.2.1
    simp only [F.txt, F.txts, F.nodes, F.nodess]
    rw [jn_length]
    simp only [List.map_cons, List.map_nil, List.sum_cons, List.sum_nil, List.length_cons, List.length_nil]
    omega
  | .mk op n az [a, b], h => by
    have h1 := F.head_len h
    simp only [F.tiny, F.tinys] at h
    have h2 := F.txt_len a h.2.2.2.1
    have h3 := F.txt_len b h.2.2.2.2.1
    simp only [F.txt, F.txts, F.nodes, F.nodess]
    rw [jn_length]
    simp only [List.map_cons, List.map_nil, List.sum_cons, List.sum_nil, List.length_cons, List.length_nil]
    omega
  | .mk op n az (a :: b :: c :: r), h => by
    have := F.head_len h
    simp only [F.txt, F.txts, F.nodes, F.nodess]; omega
end
mutual
theorem F.outl_heads : ∀ (f : F) (n : Nat), f.tiny → ∀ p ∈ f.outl n, p.2.length ≤ 16 * f.nodes ∧ p.1 < n + f.depth
  | .mk op m az l, n, h, p, hp => by
    have h1 := F.head_len h
    have h' := h
    simp only [F.tiny] at h
    simp only [F.outl, List.mem_cons] at hp
    simp only [F.nodes, F.depth]
    rcases hp with rfl | hp
    · exact ⟨by simp only; omega, by simp only; omega⟩
    · have := F.outls_heads l (n + 1) h.2.2.2 p hp
      omega
theorem F.outls_heads : ∀ (l : List F) (n : Nat), F.tinys l → ∀ p ∈ F.outls n l, p.2.length ≤ 16 * F.nodess l ∧ p.1 < n + F.depths l
  | [], n, _, p, hp => by simp [F.outls] at hp
  | f :: r, n, h, p, hp => by
    simp only [F.tinys] at h
    simp only [F.outls, List.mem_append] at hp
    simp only [F.nodess, F.depths]
    rcases hp with hp | hp
    · have := F.outl_heads f n h.1 p hp; omega
    · have := F.outls_heads r n h.2 p hp; omega
end
mutual
theorem F.outl_ws : ∀ (f : F) (n : Nat), f.ok → ∀ p ∈ f.outl n, ∃ ws, ws ≠ [] ∧ Nices ws ∧ p.2 = jn ws sp
  | .mk op m az l, n, h, p, hp => by
    have h' := h
    simp only [F.ok] at h
    simp only [F.outl, List.mem_cons] at hp
    rcases hp with rfl | hp
    · exact ⟨_, F.hws_ne _, F.hws_nice _ h', F.head_ws _⟩
    · exact F.outls_ws l (n + 1) h.1 p hp
theorem F.outls_ws : ∀ (l : List F) (n : Nat), F.oks l → ∀ p ∈ F.outls n l, ∃ ws, ws ≠ [] ∧ Nices ws ∧ p.2 = jn ws sp
  | [], n, _, p, hp => by simp [F.outls] at hp
  | f :: r, n, h, p, hp => by
    simp only [F.oks] at h
    simp only [F.outls, List.mem_append] at hp
    rcases hp with hp | hp
    · exact F.outl_ws f n h.1 p hp
    · exact F.outls_ws r n h.2 p hp
end
theorem bTerm0_tiny (k : Nat) : (bTerm0 k).tiny := by
  unfold bTerm0
  repeat' split
  all_goals simp [tv, tf, T.tiny, T.tinys]
theorem bTerm_tiny (b : Nat) : (bTerm b).tiny := by
  have := bTerm0_tiny (b % 5)
  unfold bTerm
  split
  · simp [tf, T.tiny, T.tinys, this]
  · exact this
theorem bStep_tiny {s : List F} {x : Nat} (h : ∀ f ∈ s, f.tiny) : ∀ f ∈ bStep s x, f.tiny := by
  have push : ∀ f, f.tiny → ∀ g ∈ s ++ [f], g.tiny := fun f hf g hg => by
    rcases List.mem_append.1 hg with q | q
    · exact h g q
    · rw [List.mem_singleton] at q; subst q; exact hf
  have take : ∀ (n : Nat) (f : F), f.tiny → ∀ g ∈ s.take n ++ [f], g.tiny := fun n f hf g hg => by
    rcases List.mem_append.1 hg with q | q
    · exact h g (List.mem_of_mem_take q)
    · rw [List.mem_singleton] at q; subst q; exact hf
  have hd : ∀ n, F.tinys (s.drop n) := fun n => tinys_all fun f hf => h f (List.mem_of_mem_drop hf)
  have h1 := bTerm_tiny (x / 12)
  have h2 := bTerm_tiny (x / 12 / 3)
  unfold bStep
  split
  · exact push _ (by simp [bAtom, F.tiny, T.tinys, F.tinys])
  split
  · exact push _ (by simp [bAtom, F.tiny, T.tinys, F.tinys, h1])
  split
  · exact push _ (by simp [bAtom, F.tiny, T.tinys, F.tinys, h1, h2])
  split
  · exact push _ (by simp [F.tiny, T.tinys, F.tinys])
  split
  · refine take _ _ ?_
    simp only [F.tiny, T.tinys, true_and, List.length_nil, Nat.zero_le]
    exact ⟨by repeat' split
              all_goals omega, hd _⟩
  split
  · refine take _ _ ?_
    simp only [F.tiny, T.tinys, true_and, List.length_nil, Nat.zero_le]
    exact ⟨by repeat' split
              all_goals omega, hd _⟩
  split
  · refine take _ _ ?_
    simp only [F.tiny, T.tinys, true_and, List.length_cons, List.length_nil, Nat.zero_add, Nat.le_refl]
    exact ⟨by omega, hd _⟩
  · exact h
theorem built_tiny (l : List Nat) : (built l).tiny := by
  have key : ∀ (l : List Nat) (s : List F), (∀ f ∈ s, f.tiny) → ∀ f ∈ l.foldl bStep s, f.tiny := by
    intro l
    induction l with
    | nil => intro s h; exact h
    | cons x l ih => intro s h; exact ih _ (bStep_tiny h)
  have h := key (l.take 20) [] (fun _ h => by cases h)
  unfold built
  generalize (l.take 20).foldl bStep [] = s at h
  cases s with
  | nil => simp [F.tiny, T.tinys, F.tinys]
  | cons f r =>
    simp only
    have : ∀ (r : List F) (f : F), f.tiny → (∀ g ∈ r, g.tiny) → (untils f r).tiny := by
      intro r
      induction r with
      | nil => intro f hf _; exact hf
      | cons g r ih =>
        intro f hf hr
        exact ih (.mk 14 [] [] [f, g]) (by simp [F.tiny, T.tinys, F.tinys, hf, hr g (by simp)]) fun x hx => hr x (List.mem_cons_of_mem _ hx)
    exact this r f (h f (by simp)) fun g hg => h g (List.mem_cons_of_mem _ hg)
theorem built_ok' (l : List Nat) : (built l).ok := by
  have h := built_right l
  simp only [F.right, Bool.and_eq_true, decide_eq_true_eq] at h
  exact F.shape_ok _ h.2
theorem built_sizes (l : List Nat) : (built l).nodes ≤ 400 ∧ (built l).depth ≤ 40 := by
  have h := built_right l
  simp only [F.right, Bool.and_eq_true, decide_eq_true_eq] at h
  exact h.1
end Go.Am.Do
namespace Go.Am.Do
mutual
inductive Pf where
  | mk (rule : Str) (form : F) (label : Nat) (sub : List Pf) (marks : List (List Nat))
end
def pForm (l : List Nat) (i x : Nat) : F := built ((l.take (min (i / 2 + x % 4) l.length)).drop (i / 2))
def pMarks (x k : Nat) : List Nat := (List.range ((x + k) % 4)).map fun j => (x * j * 7 + k) % 1000
def pRule (x : Nat) : Str := if x % 3 = 0 then [97, 110, 100, 73] else if x % 3 = 1 then [114, 50] else [81]
def pStep (l : List Nat) (s : List Pf) (i x : Nat) : List Pf :=
  if x % 4 = 0 then s ++ [.mk [] (pForm l i x) (1 + x * 3) [] []]
  else if x % 4 = 1 then s ++ [.mk [63] (pForm l i x) 0 [] []]
  else if x / 4 % 5 ≤ s.length then s.take (s.length - x / 4 % 5) ++ [.mk (pRule x) (pForm l i x) 0 (s.drop (s.length - x / 4 % 5)) ((List.range (x / 4 % 5)).map (pMarks x))]
  else s
def provedS (l : List Nat) : Nat → List Pf
  | 0 => []
  | k + 1 => pStep l (provedS l k) k (l.getD k 0)
def proved (l : List Nat) : Pf := match (provedS l (min l.length 30)).getLast? with
  | some p => p
  | none => .mk [] (.mk 2 [] [] []) 1 [] []
mutual
def Pf.size : Pf → Nat
  | .mk _ _ _ s _ => 1 + Pf.sizes s
def Pf.sizes : List Pf → Nat
  | [] => 0
  | p :: r => p.size + Pf.sizes r
end
mutual
def Pf.high : Pf → Nat
  | .mk _ _ _ s _ => 1 + Pf.highs s
def Pf.highs : List Pf → Nat
  | [] => 0
  | p :: r => max p.high (Pf.highs r)
end
def isRule (r : Str) : Prop := r = [97, 110, 100, 73] ∨ r = [114, 50] ∨ r = [81]
mutual
def Pf.fit : Pf → Prop
  | .mk r f n s m => f.right = true ∧ f.tiny ∧ ((r = [] ∧ s = [] ∧ m = [] ∧ 1 ≤ n ∧ n ≤ 999) ∨ (r = [63] ∧ s = [] ∧ m = [] ∧ n = 0) ∨ (isRule r ∧ n = 0 ∧ s.length ≤ 4 ∧ m.length = s.length ∧ ∀ l ∈ m, l.length ≤ 3 ∧ ∀ k ∈ l, k ≤ 999)) ∧ Pf.fits s
def Pf.fits : List Pf → Prop
  | [] => True
  | p :: r => p.fit ∧ Pf.fits r
end
theorem psizes_append (a b : List Pf) : Pf.sizes (a ++ b) = Pf.sizes a + Pf.sizes b := by
  induction a with
  | nil => simp [Pf.sizes]
  | cons x a ih => simp only [List.cons_append, Pf.sizes, ih]; omega
theorem pfits_all {l : List Pf} : Pf.fits l ↔ ∀ p ∈ l, p.fit := by
  induction l with
  | nil => simp [Pf.fits]
  | cons x l ih => simp only [Pf.fits, ih, List.mem_cons, forall_eq_or_imp]
mutual
theorem Pf.high_size : ∀ p : Pf, p.high ≤ p.size
  | .mk _ _ _ s _ => by have := Pf.highs_sizes s; simp only [Pf.high, Pf.size]; omega
theorem Pf.highs_sizes : ∀ l : List Pf, Pf.highs l ≤ Pf.sizes l
  | [] => by simp [Pf.highs]
  | p :: r => by have := Pf.high_size p; have := Pf.highs_sizes r; simp only [Pf.highs, Pf.sizes]; omega
end
theorem pStep_fit {l : List Nat} {s : List Pf} {i x : Nat} (hx : x < 256) (h : ∀ p ∈ s, p.fit) : (∀ p ∈ pStep l s i x, p.fit) ∧ Pf.sizes (pStep l s i x) ≤ Pf.sizes s + 1 := by
  have hr : (pForm l i x).right = true := built_right _
  have ht : (pForm l i x).tiny := built_tiny _
  unfold pStep
  split
  · refine ⟨fun p hp => ?_, by rw [psizes_append]; simp [Pf.sizes, Pf.size]⟩
    rcases List.mem_append.1 hp with q | q
    · exact h p q
    · rw [List.mem_singleton] at q; subst q
      rw [Pf.fit, Pf.fits]
      exact ⟨hr, ht, .inl ⟨rfl, rfl, rfl, by omega, by omega⟩, trivial⟩
  split
  · refine ⟨fun p hp => ?_, by rw [psizes_append]; simp [Pf.sizes, Pf.size]⟩
    rcases List.mem_append.1 hp with q | q
    · exact h p q
    · rw [List.mem_singleton] at q; subst q
      rw [Pf.fit, Pf.fits]
      exact ⟨hr, ht, .inr (.inl ⟨rfl, rfl, rfl, rfl⟩), trivial⟩
  split
  · rename_i hm
    have hd : (s.drop (s.length - x / 4 % 5)).length = x / 4 % 5 := by simp; omega
    refine ⟨fun p hp => ?_, ?_⟩
    · rcases List.mem_append.1 hp with q | q
      · exact h p (List.mem_of_mem_take q)
      · rw [List.mem_singleton] at q; subst q
        rw [Pf.fit]
        refine ⟨hr, ht, .inr (.inr ⟨?_, rfl, by omega, by simp [hd], ?_⟩), pfits_all.2 fun p hp => h p (List.mem_of_mem_drop hp)⟩
        · unfold pRule isRule
          split
          · exact .inl rfl
          · split
            · exact .inr (.inl rfl)
            · exact .inr (.inr rfl)
        · intro m hm
          obtain ⟨k, _, rfl⟩ := List.mem_map.1 hm
          refine ⟨by simp [pMarks]; omega, fun y hy => ?_⟩
          unfold pMarks at hy
          obtain ⟨j, _, rfl⟩ := List.mem_map.1 hy
          have := Nat.mod_lt (x * j * 7 + k) (show 0 < 1000 by omega)
          omega
    · have e : Pf.sizes s = Pf.sizes (s.take (s.length - x / 4 % 5)) + Pf.sizes (s.drop (s.length - x / 4 % 5)) := by rw [← psizes_append, List.take_append_drop]
      rw [psizes_append, e]
      simp only [Pf.sizes, Pf.size]; omega
  · exact ⟨h, by omega⟩
theorem provedS_fit {l : List Nat} (hl : ∀ x ∈ l, x < 256) : ∀ k, (∀ p ∈ provedS l k, p.fit) ∧ Pf.sizes (provedS l k) ≤ k
  | 0 => ⟨fun p hp => by simp [provedS] at hp, by simp [provedS, Pf.sizes]⟩
  | k + 1 => by
    have h := provedS_fit hl k
    have hx : l.getD k 0 < 256 := by
      rcases Nat.lt_or_ge k l.length with q | q
      · simp only [List.getD, List.getElem?_eq_getElem q, Option.getD_some]
        exact hl _ (List.getElem_mem q)
      · simp [List.getD, List.getElem?_eq_none q]
    have := pStep_fit (l := l) (i := k) hx h.1
    exact ⟨this.1, by have := this.2; simp only [provedS]; omega⟩
theorem psize_mem {l : List Pf} {p : Pf} (h : p ∈ l) : p.size ≤ Pf.sizes l := by
  induction l with
  | nil => cases h
  | cons a r ih =>
    simp only [Pf.sizes]
    rcases List.mem_cons.1 h with e | e
    · subst e; omega
    · have := ih e; omega
theorem proved_fit {l : List Nat} (hl : ∀ x ∈ l, x < 256) : (proved l).fit ∧ (proved l).size ≤ 30 := by
  have h := provedS_fit hl (min l.length 30)
  unfold proved
  split
  · rename_i p hp
    have hm := List.mem_of_getLast? hp
    exact ⟨h.1 p hm, by have := psize_mem hm; omega⟩
  · rw [Pf.fit, Pf.fits, Pf.size, Pf.sizes, F.tiny, T.tinys, F.tinys]
    exact ⟨⟨rfl, ⟨by omega, by simp, trivial, trivial⟩, .inl ⟨rfl, rfl, rfl, by omega, by omega⟩, trivial⟩, by omega⟩
def numS (n : Nat) : Str := if n < 10 then [UInt8.ofNat (48 + n)] else if n < 100 then [UInt8.ofNat (48 + n / 10), UInt8.ofNat (48 + n % 10)] else [UInt8.ofNat (48 + n / 100), UInt8.ofNat (48 + n / 10 % 10), UInt8.ofNat (48 + n % 10)]
abbrev sEnding : Str := [101, 110, 100, 105, 110, 103]
abbrev sComma : Str := [44, 32]
abbrev sNum : Str := [58, 32]
abbrev sAssume : Str := [97, 115, 115, 117, 109, 101, 32]
abbrev sStill : Str := [44, 32, 115, 116, 105, 108, 108, 32, 116, 111, 32, 115, 104, 111, 119]
abbrev sBy : Str := [44, 32, 98, 121, 32]
abbrev sFrom : Str := [32, 102, 114, 111, 109, 32]
def listS (m : List Nat) : Str := jn (m.map numS) sAnd
def useS (n : Nat) (m : List Nat) : Str := match m with
  | [] => numS n
  | m => jn [numS n, sEnding, listS m] sp
def usesS (k : Nat) : List Pf → List (List Nat) → List Str
  | p :: r, m :: ms => useS (k + p.size) m :: usesS (k + p.size) r ms
  | _, _ => []
def lineP (N : Nat) (r : Str) (f : F) (n : Nat) (us : List Str) : Str :=
  numS N ++ sNum ++ (if r = [] then sAssume ++ numS n ++ sComma ++ f.txt else if r = [63] then f.txt ++ sStill else match us with
    | [] => f.txt ++ sBy ++ r
    | us => f.txt ++ sBy ++ r ++ sFrom ++ jn us sComma)
mutual
def Pf.lines (k : Nat) : Pf → List Str
  | .mk r f n s m => Pf.liness k s ++ [lineP (k + Pf.sizes s + 1) r f n (usesS k s m)]
def Pf.liness (k : Nat) : List Pf → List Str
  | [] => []
  | p :: r => p.lines k ++ Pf.liness (k + p.size) r
end
mutual
theorem Pf.lines_len : ∀ (p : Pf) (k : Nat), (p.lines k).length = p.size
  | .mk r f n s m, k => by have := Pf.liness_len s k; simp only [Pf.lines, List.length_append, List.length_cons, List.length_nil, Pf.size]; omega
theorem Pf.liness_len : ∀ (l : List Pf) (k : Nat), (Pf.liness k l).length = Pf.sizes l
  | [], k => by simp [Pf.liness, Pf.sizes]
  | p :: r, k => by have := Pf.lines_len p k; have := Pf.liness_len r (k + p.size); simp only [Pf.liness, List.length_append, Pf.sizes]; omega
end
theorem liness_append (k : Nat) (a b : List Pf) : Pf.liness k (a ++ b) = Pf.liness k a ++ Pf.liness (k + Pf.sizes a) b := by
  induction a generalizing k with
  | nil => simp [Pf.liness, Pf.sizes]
  | cons x a ih => simp only [List.cons_append, Pf.liness, ih, Pf.sizes, List.append_assoc, Nat.add_assoc]
theorem liness_take (k : Nat) {l : List Pf} {i : Nat} {p : Pf} (h : l[i]? = some p) : Pf.liness k (l.take (i + 1)) = Pf.liness k (l.take i) ++ p.lines (k + Pf.sizes (l.take i)) := by
  rw [List.take_add_one, h, liness_append]
  simp [Pf.liness]
theorem usesS_append (k : Nat) (a b : List Pf) (m n : List (List Nat)) (h : a.length = m.length) : usesS k (a ++ b) (m ++ n) = usesS k a m ++ usesS (k + Pf.sizes a) b n := by
  induction a generalizing k m with
  | nil =>
    have : m = [] := List.length_eq_zero_iff.1 h.symm
    subst this
    simp [usesS, Pf.sizes]
  | cons x a ih =>
    cases m with
    | nil => simp at h
    | cons y m => simp only [List.cons_append, usesS, Pf.sizes]; rw [ih _ _ (by simpa using h), Nat.add_assoc]
theorem usesS_take (k : Nat) {l : List Pf} {ms : List (List Nat)} {i : Nat} {p : Pf} {m : List Nat} (h : l[i]? = some p) (hm : ms[i]? = some m) : usesS k (l.take (i + 1)) (ms.take (i + 1)) = usesS k (l.take i) (ms.take i) ++ [useS (k + Pf.sizes (l.take i) + p.size) m] := by
  have h1 : i < l.length := by
    rcases Nat.lt_or_ge i l.length with q | q
    · exact q
    · rw [List.getElem?_eq_none q] at h; cases h
  have h2 : i < ms.length := by
    rcases Nat.lt_or_ge i ms.length with q | q
    · exact q
    · rw [List.getElem?_eq_none q] at hm; cases hm
  rw [List.take_add_one, List.take_add_one, h, hm, Option.toList_some, Option.toList_some, usesS_append _ _ _ _ _ (by simp; omega)]
  simp [usesS]
theorem usesS_len (k : Nat) : ∀ (l : List Pf) (ms : List (List Nat)), l.length = ms.length → (usesS k l ms).length = l.length
  | [], ms, h => by cases ms <;> simp [usesS]
  | p :: r, [], h => by simp at h
  | p :: r, m :: ms, h => by simp only [usesS, List.length_cons]; rw [usesS_len _ r ms (by simpa using h)]
theorem numS_len (n : Nat) : 1 ≤ (numS n).length ∧ (numS n).length ≤ 3 := by
  unfold numS
  by_cases h : n < 10
  · rw [if_pos h]; simp
  · rw [if_neg h]
    by_cases h2 : n < 100
    · rw [if_pos h2]; simp
    · rw [if_neg h2]; simp
end Go.Am.Do
namespace Go.Am
open Go.RowKit
def LoopK (I : List AV → AState → Nat → Prop) (n : Nat) (Q : Ex → List AV → AState → Prop) : Ex → List AV → AState → Prop
  | .normal, ts, σ => ∃ m, m < n ∧ I ts σ m
  | .exit id, ts, σ => Q (.exit id) ts σ
  | .ret, ts, σ => Q .ret ts σ
theorem lk_n (I : List AV → AState → Nat → Prop) (n : Nat) (Q : Ex → List AV → AState → Prop) (ts : List AV) (σ : AState) : LoopK I n Q .normal ts σ = ∃ m, m < n ∧ I ts σ m := rfl
theorem lk_e (I : List AV → AState → Nat → Prop) (n : Nat) (Q : Ex → List AV → AState → Prop) (i : Nat) (ts : List AV) (σ : AState) : LoopK I n Q (.exit i) ts σ = Q (.exit i) ts σ := rfl
theorem lk_r (I : List AV → AState → Nat → Prop) (n : Nat) (Q : Ex → List AV → AState → Prop) (ts : List AV) (σ : AState) : LoopK I n Q .ret ts σ = Q .ret ts σ := rfl
theorem wp_loopK {Rs : Code → AC → Prop} {P : Program} {b : AC} {ts : List AV} {σ : AState} {Q : Ex → List AV → AState → Prop} (I : List AV → AState → Nat → Prop) (n : Nat) (h0 : I ts σ n)
    (hr : ∀ n ts σ, I ts σ n → wpC Rs P b ts σ (LoopK I n Q)) : wpC Rs P (.loop b) ts σ Q :=
  wp_loop I n h0 fun n ts σ h => wpC_mono b (hr n ts σ h) fun e ts' σ' he => by cases e <;> exact he
end Go.Am
namespace Go.Am.Do
def sh (k : Nat) (i : Int) : Int := if i = -1 then -1 else i + k
theorem sh_zero (i : Int) : sh 0 i = i := by unfold sh; split <;> omega
theorem sh_sh (a b : Nat) (i : Int) (hi : -1 ≤ i) : sh a (sh b i) = sh (a + b) i := by
  unfold sh
  split
  · simp
  · rw [if_neg (by omega)]; omega
theorem index_cons {b : UInt8} {l sub : Str} (h : sub.isPrefixOf (b :: l) = false) : Lib.index (b :: l) sub = sh 1 (Lib.index l sub) := by
  rw [Lib.index, h]
  unfold sh
  by_cases q : Lib.index l sub = -1
  · simp [q]
  · simp [q]
theorem index_skip {c : UInt8} {t : Str} : ∀ (w r : Str), c ∉ w → Lib.index (w ++ r) (c :: t) = sh w.length (Lib.index r (c :: t))
  | [], r, _ => by simp [sh_zero]
  | b :: w, r, h => by
    simp only [List.mem_cons, not_or] at h
    have h1 : (c :: t).isPrefixOf (b :: (w ++ r)) = false := by
      rw [List.isPrefixOf_cons_cons]
      have : (c == b) = false := by simp only [beq_eq_false_iff_ne]; exact h.1
      rw [this]; rfl
    rw [List.cons_append, index_cons h1, index_skip w r h.2, sh_sh _ _ _ (Lib.index_ge _ _), List.length_cons, Nat.add_comm]
theorem index_nil {c : UInt8} {t : Str} : Lib.index [] (c :: t) = -1 := by rw [Lib.index]; rfl
theorem index_no {c : UInt8} {t w : Str} (h : c ∉ w) : Lib.index w (c :: t) = -1 := by
  have := index_skip (t := t) w [] h
  rw [List.append_nil] at this
  rw [this, index_nil]; rfl
theorem index_here (s r : Str) (h : s ≠ []) : Lib.index (s ++ r) s = 0 := by
  cases s with
  | nil => exact absurd rfl h
  | cons c t =>
    rw [List.cons_append, Lib.index, if_pos]
    rw [List.isPrefixOf_iff_prefix]
    exact ⟨r, by simp⟩
theorem index_in (a s r : Str) : 0 ≤ Lib.index (a ++ s ++ r) s := by
  induction a with
  | nil =>
    cases s with
    | nil => rw [List.nil_append, List.nil_append]; cases r <;> simp [Lib.index]
    | cons c t => rw [List.nil_append, index_here _ _ (by simp)]; omega
  | cons b a ih =>
    rw [List.append_assoc, List.cons_append, ← List.append_assoc, Lib.index]
    split
    · omega
    · have : ¬ Lib.index (a ++ s ++ r) s = -1 := by omega
      simp only [beq_iff_eq, this, if_false]; omega
theorem cut_at {s sep a b : Str} (hs : s = a ++ sep ++ b) (h : Lib.index s sep = a.length) : Lib.cut s sep = (a, b, true) := by
  unfold Lib.cut
  rw [h, if_pos (by omega)]
  subst hs
  simp [List.drop_append]
theorem cut_no {s sep : Str} (h : Lib.index s sep = -1) : Lib.cut s sep = (s, [], false) := by
  unfold Lib.cut
  rw [h, if_neg (by omega)]
abbrev wFrom : Str := [102, 114, 111, 109]
def NF (w : Str) : Prop := (32 : UInt8) ∉ w ∧ w ≠ wFrom
def Stop (r : Str) : Prop := r = [] ∨ (∃ t, r = 32 :: t) ∨ ∃ t, r = 44 :: t
theorem from_not {w r : Str} (hw : NF w) (hr : Stop r) : sFrom.isPrefixOf (32 :: (w ++ r)) = false := by
  rw [Bool.eq_false_iff]
  intro h
  rw [List.isPrefixOf_iff_prefix] at h
  obtain ⟨t, ht⟩ := h
  simp only [sFrom, List.cons_append, List.nil_append, List.cons.injEq, true_and] at ht
  obtain ⟨hn, hf⟩ := hw
  rcases hr with rfl | ⟨q, rfl⟩ | ⟨q, rfl⟩ <;> (
    match w, hn, hf, ht with
    | [], _, _, ht => simp at ht
    | [a], _, _, ht => simp at ht
    | [a, b], _, _, ht => simp at ht
    | [a, b, c], _, _, ht => simp at ht
    | [a, b, c, d], _, hf, ht =>
      simp only [List.cons_append, List.nil_append, List.cons.injEq, List.append_nil] at ht
      obtain ⟨rfl, rfl, rfl, rfl, _⟩ := ht
      exact hf rfl
    | a :: b :: c :: d :: e :: w, hn, _, ht =>
      simp only [List.cons_append, List.cons.injEq, List.append_nil] at ht
      obtain ⟨_, _, _, _, rfl, _⟩ := ht
      exact hn (by simp))
def tl (ws : List Str) : Str := (ws.map (32 :: ·)).flatten
theorem tl_cons (w : Str) (ws : List Str) : tl (w :: ws) = 32 :: w ++ tl ws := by simp [tl]
theorem tl_append (a b : List Str) : tl (a ++ b) = tl a ++ tl b := by simp [tl]
theorem tl_stop {ws : List Str} {r : Str} (h : Stop r) : Stop (tl ws ++ r) := by
  cases ws with
  | nil => simpa [tl] using h
  | cons w ws => exact .inr (.inl ⟨w ++ tl ws ++ r, by rw [tl_cons]; simp⟩)
theorem index_tl : ∀ (ws : List Str) (r : Str), (∀ w ∈ ws, NF w) → Stop r → Lib.index (tl ws ++ r) sFrom = sh (tl ws).length (Lib.index r sFrom)
  | [], r, _, _ => by simp [tl, sh_zero]
  | w :: ws, r, h, hr => by
    have hw := h w (by simp)
    have e : tl (w :: ws) ++ r = 32 :: (w ++ (tl ws ++ r)) := by rw [tl_cons]; simp
    have hl : (tl (w :: ws)).length = 1 + (w.length + (tl ws).length) := by rw [tl_cons]; simp; omega
    rw [e, index_cons (from_not hw (tl_stop hr)), index_skip w _ hw.1, index_tl ws r (fun x hx => h x (by simp [hx])) hr, sh_sh _ _ _ (Lib.index_ge _ _), sh_sh _ _ _ (Lib.index_ge _ _), hl]
theorem jn_tl (x : Str) (r : List Str) : jn (x :: r) sp = x ++ tl r := by
  induction r generalizing x with
  | nil => rw [jn_one]; simp [tl]
  | cons y r ih => rw [jn_cons2, ih y, tl_cons]; simp
theorem index_words {ws : List Str} {r : Str} (hne : ws ≠ []) (h : ∀ w ∈ ws, NF w) (hr : Stop r) : Lib.index (jn ws sp ++ r) sFrom = sh (jn ws sp).length (Lib.index r sFrom) := by
  cases ws with
  | nil => exact absurd rfl hne
  | cons x ws =>
    rw [jn_tl, List.append_assoc, index_skip x _ (h x (by simp)).1, index_tl ws r (fun w hw => h w (by simp [hw])) hr, sh_sh _ _ _ (Lib.index_ge _ _), List.length_append]
theorem nf_short {w : Str} (h : Nice w) (hl : w.length ≤ 1) : NF w := ⟨h.2, fun q => by rw [q] at hl; simp at hl⟩
mutual
theorem T.ws_nf : ∀ t : T, t.ok → t.tiny → ∀ w ∈ t.ws, NF w
  | .mk _ n [], h, ht, w, hw => by
    simp only [T.ok] at h; simp only [T.tiny] at ht
    simp only [T.ws, List.mem_singleton] at hw
    subst hw; exact nf_short h.1 ht.1
  | .mk _ n (a :: az), h, ht, w, hw => by
    simp only [T.ok, T.oks] at h; simp only [T.tiny, T.tinys] at ht
    simp only [T.ws, List.mem_cons, List.mem_append] at hw
    rcases hw with rfl | rfl | q | q
    · exact nf_short h.1 ht.1
    · exact ⟨by decide, by decide⟩
    · exact T.ws_nf a h.2.1 ht.2.1 w q
    · exact T.wsr_nf az h.2.2 ht.2.2 w q
theorem T.wsr_nf : ∀ l : List T, T.oks l → T.tinys l → ∀ w ∈ T.wsr l, NF w
  | [], _, _, w, hw => by
    simp only [T.wsr, List.mem_singleton] at hw
    subst hw; exact ⟨by decide, by decide⟩
  | t :: r, h, ht, w, hw => by
    simp only [T.oks] at h; simp only [T.tinys] at ht
    simp only [T.wsr, List.mem_cons, List.mem_append] at hw
    rcases hw with rfl | q | q
    · exact ⟨by decide, by decide⟩
    · exact T.ws_nf t h.1 ht.1 w q
    · exact T.wsr_nf r h.2 ht.2 w q
end
theorem pat_nf (op : Nat) : NF (pat op).1 ∧ NF (pat op).2 := by
  unfold pat
  split
  · rename_i p h
    have hm := List.mem_of_find?_eq_some h
    have : ∀ p ∈ pats, ((32 : UInt8) ∉ p.2.1 ∧ p.2.1 ≠ wFrom) ∧ ((32 : UInt8) ∉ p.2.2 ∧ p.2.2 ≠ wFrom) := by decide
    exact this p hm
  · exact ⟨⟨by decide, by decide⟩, ⟨by decide, by decide⟩⟩
theorem headWs_nf {n : Str} {az : List T} (hn : Nice n) (hl : n.length ≤ 1) (ha : T.oks az) (ht : T.tinys az) : ∀ w ∈ headWs n az, NF w := by
  intro w hw
  have h := T.ws_nf (.mk false n az) (by simp only [T.ok]; exact ⟨hn, ha⟩) (by simp only [T.tiny]; exact ⟨hl, ht⟩) w
  cases az with
  | nil => exact h (by simpa only [T.ws, headWs] using hw)
  | cons a r => exact h (by simpa only [T.ws, headWs] using hw)
theorem F.hws_nf : ∀ f : F, f.ok → f.tiny → ∀ w ∈ f.hws, NF w
  | .mk op n az l, h, ht, w, hw => by
    simp only [F.ok] at h
    simp only [F.tiny] at ht
    have hp := pat_nf op
    simp only [F.hws] at hw
    split at hw
    · rename_i q
      obtain ⟨_, ⟨_, hn, _, ha, _⟩ | ⟨q2, _⟩ | ⟨q2, _⟩ | ⟨q2, _⟩ | ⟨q2, _⟩⟩ := h
      · exact headWs_nf hn ht.2.1 ha ht.2.2.1 w hw
      all_goals (exfalso; omega)
    split at hw
    · rename_i q
      have hn : Nice n := by
        obtain ⟨_, ⟨q2, _⟩ | ⟨q2, _⟩ | ⟨q2, _⟩ | ⟨q2, _⟩ | ⟨_, hn, _⟩⟩ := h
        all_goals first | exact hn | (exfalso; omega)
      simp only [List.mem_cons, List.not_mem_nil, or_false] at hw
      rcases hw with rfl | rfl | rfl
      · exact ⟨by decide, by decide⟩
      · exact ⟨by decide, by decide⟩
      · exact nf_short hn ht.2.1
    split at hw
    · rename_i q
      have hn : Nice n := by
        obtain ⟨_, ⟨q2, _⟩ | ⟨q2, _⟩ | ⟨q2, _⟩ | ⟨q2, _⟩ | ⟨_, hn, _⟩⟩ := h
        all_goals first | exact hn | (exfalso; omega)
      simp only [List.mem_cons, List.not_mem_nil, or_false] at hw
      rcases hw with rfl | rfl | rfl
      · exact ⟨by decide, by decide⟩
      · exact ⟨by decide, by decide⟩
      · exact nf_short hn ht.2.1
    · simp only [List.mem_singleton] at hw
      subst hw; exact hp.1
mutual
theorem F.ws_nf : ∀ f : F, f.ok → f.tiny → ∀ w ∈ f.ws, NF w
  | .mk op n az l, h, ht, w, hw => by
    have h0 := F.hws_nf _ h ht
    simp only [F.ok] at h
    simp only [F.tiny] at ht
    simp only [F.ws, List.mem_append] at hw
    rcases hw with q | q
    · exact h0 w q
    · exact F.wss_nf _ (pat_nf op).2 l h.1 ht.2.2.2 w q
theorem F.wss_nf (b : Str) (hb : NF b) : ∀ l : List F, F.oks l → F.tinys l → ∀ w ∈ F.wss b l, NF w
  | [], _, _, w, hw => by simp [F.wss] at hw
  | [x], h, ht, w, hw => by simp only [F.oks] at h; simp only [F.tinys] at ht; simp only [F.wss] at hw; exact F.ws_nf x h.1 ht.1 w hw
  | x :: y :: r, h, ht, w, hw => by
    simp only [F.oks] at h; simp only [F.tinys] at ht
    simp only [F.wss, List.mem_append, List.mem_cons] at hw
    rcases hw with q | q | q
    · exact F.ws_nf x h.1 ht.1 w q
    · subst q; exact hb
    · exact F.wss_nf b hb (y :: r) (by simp only [F.oks]; exact h.2) (by simp only [F.tinys]; exact ht.2) w q
end
end Go.Am.Do
namespace Go.Am.Do
theorem digit_of (x : Nat) (h : x < 10) : 48 ≤ (UInt8.ofNat (48 + x)).toNat ∧ (UInt8.ofNat (48 + x)).toNat ≤ 57 := by
  rw [UInt8.toNat_ofNat']
  omega
theorem numS_digits {n : Nat} (hn : n < 1000) : ∀ b ∈ numS n, 48 ≤ b.toNat ∧ b.toNat ≤ 57 := by
  intro b hb
  unfold numS at hb
  split at hb
  · simp only [List.mem_singleton] at hb; subst hb; exact digit_of _ (by omega)
  split at hb
  · simp only [List.mem_cons, List.not_mem_nil, or_false] at hb
    rcases hb with rfl | rfl
    · exact digit_of _ (by omega)
    · exact digit_of _ (by omega)
  · simp only [List.mem_cons, List.not_mem_nil, or_false] at hb
    rcases hb with rfl | rfl | rfl
    · exact digit_of _ (by omega)
    · exact digit_of _ (by omega)
    · exact digit_of _ (by omega)
theorem numS_no {n : Nat} (hn : n < 1000) {c : UInt8} (hc : c.toNat < 48) : c ∉ numS n := fun h => by
  have := (numS_digits hn c h).1; omega
theorem jn_mem {l : List Str} {s : Str} {b : UInt8} (h : b ∈ jn l s) : b ∈ s ∨ ∃ x ∈ l, b ∈ x := by
  induction l with
  | nil => rw [jn_nil] at h; cases h
  | cons x r ih =>
    cases r with
    | nil => rw [jn_one] at h; exact .inr ⟨x, by simp, h⟩
    | cons y r =>
      rw [jn_cons2, List.mem_append, List.mem_append] at h
      rcases h with (h | h) | h
      · exact .inr ⟨x, by simp, h⟩
      · exact .inl h
      · rcases ih h with q | ⟨z, hz, hb⟩
        · exact .inl q
        · exact .inr ⟨z, List.mem_cons_of_mem _ hz, hb⟩
def UseOk (i : Nat) (u : Str) (n : Nat) : Prop := (44 : UInt8) ∉ u ∧ u.length ≤ 1000 ∧ (Lib.cut u sp).1 = numS n ∧ 1 ≤ n ∧ n ≤ i
inductive UsesOk (i : Nat) : List Str → List Nat → Prop
  | nil : UsesOk i [] []
  | cons {u n us ns} : UseOk i u n → UsesOk i us ns → UsesOk i (u :: us) (n :: ns)
theorem UsesOk.len {i : Nat} {us : List Str} {ns : List Nat} (h : UsesOk i us ns) : us.length = ns.length := by
  induction h with
  | nil => rfl
  | cons _ _ ih => simp [ih]
theorem UsesOk.at' {i : Nat} {us : List Str} {ns : List Nat} (h : UsesOk i us ns) {j : Nat} {u : Str} (hj : us[j]? = some u) : ∃ n, ns[j]? = some n ∧ UseOk i u n := by
  induction h generalizing j with
  | nil => simp at hj
  | cons a _ ih =>
    cases j with
    | zero => simp only [List.getElem?_cons_zero, Option.some.injEq] at hj; subst hj; exact ⟨_, rfl, a⟩
    | succ j => simp only [List.getElem?_cons_succ] at hj ⊢; exact ih hj
def LineOk (i : Nat) (ℓ : Str) (ns : List Nat) : Prop := ∃ body, ℓ = numS (i + 1) ++ 58 :: 32 :: body ∧ ℓ.length ≤ 100000 ∧ (((Lib.cut body sFrom).2.2 = false ∧ ns = []) ∨ ∃ a us, Lib.cut body sFrom = (a, jn us sComma, true) ∧ us ≠ [] ∧ us.length ≤ 4 ∧ UsesOk i us ns)
def Lines (k : Nat) : List Str → List (List Nat) → Prop
  | [], [] => True
  | l :: r, n :: s => LineOk k l n ∧ Lines (k + 1) r s
  | _, _ => False
theorem Lines.append {k : Nat} {a c : List Str} {b d : List (List Nat)} (h : Lines k a b) (h2 : Lines (k + a.length) c d) : Lines k (a ++ c) (b ++ d) := by
  induction a generalizing k b with
  | nil =>
    cases b with
    | nil => simpa using h2
    | cons _ _ => exact h.elim
  | cons x a ih =>
    cases b with
    | nil => exact h.elim
    | cons y b =>
      refine ⟨h.1, ih h.2 ?_⟩
      rw [show k + 1 + a.length = k + (x :: a).length by simp; omega]; exact h2
theorem Lines.at' {k : Nat} {a : List Str} {b : List (List Nat)} (h : Lines k a b) {j : Nat} {ℓ : Str} (hj : a[j]? = some ℓ) : ∃ ns, b[j]? = some ns ∧ LineOk (k + j) ℓ ns := by
  induction a generalizing k b j with
  | nil => simp at hj
  | cons x a ih =>
    cases b with
    | nil => exact h.elim
    | cons y b =>
      cases j with
      | zero => simp only [List.getElem?_cons_zero, Option.some.injEq] at hj; subst hj; exact ⟨y, rfl, h.1⟩
      | succ j =>
        simp only [List.getElem?_cons_succ] at hj ⊢
        have := ih h.2 hj
        rwa [show k + 1 + j = k + (j + 1) by omega] at this
theorem Lines.len {k : Nat} {a : List Str} {b : List (List Nat)} (h : Lines k a b) : a.length = b.length := by
  induction a generalizing k b with
  | nil => cases b with
    | nil => rfl
    | cons _ _ => exact h.elim
  | cons x a ih => cases b with
    | nil => exact h.elim
    | cons y b => simp [ih h.2]
def ends (k : Nat) : List Pf → List Nat
  | [] => []
  | p :: r => (k + p.size) :: ends (k + p.size) r
mutual
def Pf.refs (k : Nat) : Pf → List (List Nat)
  | .mk _ _ _ s _ => Pf.refss k s ++ [ends k s]
def Pf.refss (k : Nat) : List Pf → List (List Nat)
  | [] => []
  | p :: r => p.refs k ++ Pf.refss (k + p.size) r
end
theorem size_pos (p : Pf) : 1 ≤ p.size := by obtain ⟨r, f, n, s, m⟩ := p; simp only [Pf.size]; omega
def rl (a b n : Nat) : Nat := if a ≤ n ∧ n < b then 1 else 0
theorem rl_one {a b n : Nat} (h : a ≤ n ∧ n < b) : rl a b n = 1 := if_pos h
theorem rl_no {a b n : Nat} (h : ¬ (a ≤ n ∧ n < b)) : rl a b n = 0 := if_neg h
mutual
theorem Pf.refs_count : ∀ (p : Pf) (k n : Nat), (p.refs k).flatten.count n = rl (k + 1) (k + p.size) n
  | .mk r f m s ms, k, n => by
    have h := Pf.refss_count s k n
    simp only [Pf.refs, List.flatten_append, List.flatten_cons, List.flatten_nil, List.append_nil, List.count_append, h, Pf.size]
    congr 1; omega
theorem Pf.refss_count : ∀ (s : List Pf) (k n : Nat), (Pf.refss k s).flatten.count n + (ends k s).count n = rl (k + 1) (k + Pf.sizes s + 1) n
  | [], k, n => by
    simp only [Pf.refss, ends, List.flatten_nil, List.count_nil, Pf.sizes]
    rw [rl_no (by omega)]
  | p :: r, k, n => by
    have h1 := Pf.refs_count p k n
    have h2 := Pf.refss_count r (k + p.size) n
    have hp := size_pos p
    simp only [Pf.refss, ends, List.flatten_append, List.count_append, List.count_cons, Pf.sizes]
    have h3 : (if (k + p.size == n) = true then 1 else 0) = if k + p.size = n then 1 else 0 := by simp only [beq_iff_eq]
    rw [h3, h1]
    have e : rl (k + 1) (k + p.size) n + rl (k + p.size + 1) (k + p.size + Pf.sizes r + 1) n + (if k + p.size = n then 1 else 0) = rl (k + 1) (k + (p.size + Pf.sizes r) + 1) n := by
      unfold rl
      split <;> split <;> split <;> split <;> first | rfl | (exfalso; omega)
    omega
end
theorem useS_ok {n : Nat} {m : List Nat} {i : Nat} (h1 : 1 ≤ n) (h2 : n ≤ i) (hi : i < 1000) (hm : ∀ x ∈ m, x < 1000) (hl : (useS n m).length ≤ 1000) : UseOk i (useS n m) n := by
  have hn : n < 1000 := by omega
  have hsp : (32 : UInt8) ∉ numS n := numS_no hn (by decide)
  have hcm : (44 : UInt8) ∉ numS n := numS_no hn (by decide)
  refine ⟨?_, hl, ?_, h1, h2⟩
  · cases m with
    | nil => exact hcm
    | cons y r =>
      intro h
      simp only [useS] at h
      rcases jn_mem h with q | ⟨x, hx, hb⟩
      · revert q; decide
      · simp only [List.mem_cons, List.not_mem_nil, or_false] at hx
        rcases hx with rfl | rfl | rfl
        · exact hcm hb
        · revert hb; decide
        · unfold listS at hb
          rcases jn_mem hb with q | ⟨x, hx, hb⟩
          · revert q; decide
          · obtain ⟨z, hz, rfl⟩ := List.mem_map.1 hx
            exact numS_no (hm z hz) (by decide) hb
  · cases m with
    | nil => show (Lib.cut (numS n) sp).1 = _; rw [cut_no (index_no hsp)]
    | cons y r =>
      have e : useS n (y :: r) = numS n ++ sp ++ jn [sEnding, listS (y :: r)] sp := by simp only [useS]; rw [jn_cons2]
      rw [cut_at e ?_]
      rw [e, List.append_assoc, index_skip _ _ hsp, index_here _ _ (by simp)]
      unfold sh; rw [if_neg (by omega)]; omega
theorem UsesOk.mono {i j : Nat} {us : List Str} {ns : List Nat} (h : UsesOk i us ns) (hij : i ≤ j) : UsesOk j us ns := by
  induction h with
  | nil => exact .nil
  | cons a _ ih => exact .cons ⟨a.1, a.2.1, a.2.2.1, a.2.2.2.1, Nat.le_trans a.2.2.2.2 hij⟩ ih
theorem uses_ok : ∀ (s : List Pf) (ms : List (List Nat)) (k : Nat), s.length = ms.length → (∀ l ∈ ms, l.length ≤ 3 ∧ ∀ x ∈ l, x ≤ 999) → (∀ u ∈ usesS k s ms, u.length ≤ 1000) → k + Pf.sizes s < 1000 → UsesOk (k + Pf.sizes s) (usesS k s ms) (ends k s)
  | [], ms, k, _, _, _, _ => by cases ms <;> exact .nil
  | p :: r, [], k, h, _, _, _ => by simp at h
  | p :: r, m :: ms, k, h, hm, hu, hk => by
    simp only [Pf.sizes] at hk ⊢
    simp only [usesS, ends] at hu ⊢
    have hp := size_pos p
    refine .cons (useS_ok (by omega) (by omega) (by omega) (fun x hx => by have := (hm m (by simp)).2 x hx; omega) (hu _ (by simp))) ?_
    rw [← Nat.add_assoc]
    exact uses_ok r ms (k + p.size) (by simpa using h) (fun l hl => hm l (by simp [hl])) (fun u hx => hu u (by simp [hx])) (by omega)
end Go.Am.Do
namespace Go.Am.Do
theorem jnB {B : Nat} (sep : Str) : ∀ (ss : List Str), (∀ s ∈ ss, s.length ≤ B) → (jn ss sep).length ≤ ss.length * (B + sep.length)
  | [], _ => by simp [jn_nil]
  | [x], h => by rw [jn_one]; have := h x (by simp); simp only [List.length_cons, List.length_nil]; omega
  | x :: y :: r, h => by
    have h1 := h x (by simp)
    have h2 := jnB sep (y :: r) fun s hs => h s (List.mem_cons_of_mem _ hs)
    rw [jn_cons2]
    simp only [List.length_append, List.length_cons] at h2 ⊢
    rw [Nat.add_mul (r.length + 1), Nat.one_mul]
    omega
theorem useB (N : Nat) {mk : List Nat} (h : mk.length ≤ 3) : (useS N mk).length ≤ 100 := by
  have hn := numS_len N
  cases mk with
  | nil => show (numS N).length ≤ 100; omega
  | cons y yr =>
    have hlb := jnB (B := 3) sAnd ((y :: yr).map numS) (fun s hs => by obtain ⟨x, _, rfl⟩ := List.mem_map.1 hs; exact (numS_len x).2)
    have hlb2 : (listS (y :: yr)).length ≤ 30 := by
      unfold listS
      simp only [List.length_map, List.length_cons, List.length_nil] at hlb h ⊢
      refine Nat.le_trans hlb ?_
      have : yr.length ≤ 2 := by omega
      omega
    have := jnB (B := 30) sp [numS N, sEnding, listS (y :: yr)] (fun s hs => by
      simp only [List.mem_cons, List.not_mem_nil, or_false] at hs
      rcases hs with rfl | rfl | rfl
      · omega
      · simp
      · exact hlb2)
    simp only [List.length_cons, List.length_nil] at this
    exact Nat.le_trans this (by omega)
theorem usesB : ∀ (l : List Pf) (ms : List (List Nat)) (k : Nat), (∀ m ∈ ms, m.length ≤ 3) → ∀ u ∈ usesS k l ms, u.length ≤ 100
  | [], ms, k, h, u, hu => by cases ms <;> simp [usesS] at hu
  | p :: r, [], k, h, u, hu => by simp [usesS] at hu
  | p :: r, m :: ms, k, h, u, hu => by
    simp only [usesS, List.mem_cons] at hu
    rcases hu with rfl | hu
    · exact useB _ (h m (by simp))
    · exact usesB r ms _ (fun x hx => h x (by simp [hx])) u hu
theorem jn_tl' {ws : List Str} (h : ws ≠ []) : tl ws = 32 :: jn ws sp := by
  cases ws with
  | nil => exact absurd rfl h
  | cons x r => rw [jn_tl, tl_cons]; simp
theorem rule_nf {r : Str} (h : isRule r) : NF r ∧ r ≠ [] ∧ r ≠ [63] ∧ r.length ≤ 4 := by
  rcases h with rfl | rfl | rfl <;> exact ⟨⟨by decide, by decide⟩, by decide, by decide, by decide⟩
theorem leaf_cut {f : F} (hok : f.ok) (ht : f.tiny) {n : Nat} (hn : n < 1000) : Lib.index (sAssume ++ numS n ++ sComma ++ f.txt) sFrom = -1 := by
  have hw : ∀ w ∈ ([97, 115, 115, 117, 109, 101] : Str) :: (numS n ++ [44]) :: f.ws, NF w := by
    intro w hw
    simp only [List.mem_cons] at hw
    rcases hw with rfl | rfl | q
    · exact ⟨by decide, by decide⟩
    · refine ⟨fun h => ?_, fun h => ?_⟩
      · rcases List.mem_append.1 h with q | q
        · exact numS_no hn (by decide) q
        · revert q; decide
      · have h1 := numS_len n
        have h2 : (numS n ++ [44]).length = 4 := by rw [h]; rfl
        have h3 : (numS n ++ [44])[3]? = some 44 := by
          rw [List.length_append] at h2
          simp only [List.length_cons, List.length_nil] at h2
          rw [List.getElem?_append_right (by omega)]
          rw [show 3 - (numS n).length = 0 by omega]; rfl
        rw [h] at h3
        revert h3; decide
    · exact F.ws_nf f hok ht w q
  have h := index_words (r := []) (by simp) hw (.inl rfl)
  have e : jn (([97, 115, 115, 117, 109, 101] : Str) :: (numS n ++ [44]) :: f.ws) sp ++ [] = sAssume ++ numS n ++ sComma ++ f.txt := by
    rw [jn_tl, tl_cons, jn_tl' (F.ws_ne f), F.txt_ws f hok]
    simp
  rw [e] at h
  rw [h, index_nil]; rfl
theorem txt_cut {f : F} (hok : f.ok) (ht : f.tiny) {r : Str} (hr : Stop r) : Lib.index (f.txt ++ r) sFrom = sh f.txt.length (Lib.index r sFrom) := by
  rw [F.txt_ws f hok]
  exact index_words (F.ws_ne f) (F.ws_nf f hok ht) hr
theorem rule_cut {r X : Str} (h : isRule r) : Lib.index (sBy ++ r ++ sFrom ++ X) sFrom = ((sBy ++ r).length : Nat) := by
  have e : sBy ++ r ++ sFrom ++ X = [44] ++ (tl [[98, 121], r] ++ (sFrom ++ X)) := by simp [tl]
  rw [e, index_skip [44] _ (by decide), index_tl _ (sFrom ++ X) ?_ (.inr (.inl ⟨_, rfl⟩)), index_here _ _ (by simp)]
  · simp [sh, tl]; omega
  · intro w hw
    simp only [List.mem_cons, List.not_mem_nil, or_false] at hw
    rcases hw with rfl | rfl
    · exact ⟨by decide, by decide⟩
    · exact (rule_nf h).1
theorem fit_line {r : Str} {f : F} {n : Nat} {s : List Pf} {ms : List (List Nat)} {k : Nat} (h : (Pf.mk r f n s ms).fit) (hk : k + Pf.sizes s < 900) : LineOk (k + Pf.sizes s) (lineP (k + Pf.sizes s + 1) r f n (usesS k s ms)) (ends k s) := by
  rw [Pf.fit] at h
  obtain ⟨hr, ht, hc, _⟩ := h
  have hok : f.ok := by
    simp only [F.right, Bool.and_eq_true, decide_eq_true_eq] at hr
    exact F.shape_ok _ hr.2
  have hnd : f.nodes ≤ 400 := by
    simp only [F.right, Bool.and_eq_true, decide_eq_true_eq] at hr
    exact hr.1.1
  have hl := F.txt_len f ht
  have hn1 := numS_len (k + Pf.sizes s + 1)
  rcases hc with ⟨rfl, rfl, rfl, _, hn⟩ | ⟨rfl, rfl, rfl, rfl⟩ | ⟨hrule, rfl, hs4, hm, hms⟩
  · have hn2 := numS_len n
    refine ⟨sAssume ++ numS n ++ sComma ++ f.txt, by simp [lineP], ?_, .inl ⟨by rw [cut_no (leaf_cut hok ht (by omega))], rfl⟩⟩
    simp only [lineP, if_true, List.length_append, List.length_cons, List.length_nil]; omega
  · refine ⟨f.txt ++ sStill, by simp [lineP], ?_, .inl ⟨?_, rfl⟩⟩
    · simp [lineP]; omega
    · rw [cut_no]
      rw [txt_cut hok ht (.inr (.inr ⟨_, rfl⟩)), show Lib.index sStill sFrom = -1 by decide]; rfl
  · obtain ⟨hnf, h1, h2, h3⟩ := rule_nf hrule
    have hub := usesB s ms k (fun m q => (hms m q).1)
    have hul := usesS_len k s ms hm.symm
    cases hus : usesS k s ms with
    | nil =>
      have hs0 : s = [] := List.length_eq_zero_iff.1 (by rw [← hul, hus]; rfl)
      subst hs0
      refine ⟨f.txt ++ sBy ++ r, by simp [lineP, h1, h2], ?_, .inl ⟨?_, rfl⟩⟩
      · simp [lineP, h1, h2]; omega
      · rw [cut_no]
        rw [List.append_assoc, txt_cut (r := sBy ++ r) hok ht (.inr (.inr ⟨_, rfl⟩))]
        rcases hrule with rfl | rfl | rfl
        · rw [show Lib.index (sBy ++ [97, 110, 100, 73]) sFrom = -1 by decide]; rfl
        · rw [show Lib.index (sBy ++ [114, 50]) sFrom = -1 by decide]; rfl
        · rw [show Lib.index (sBy ++ [81]) sFrom = -1 by decide]; rfl
    | cons u ur =>
      have huo := uses_ok s ms k hm.symm hms (fun x hx => Nat.le_trans (hub x hx) (by omega)) (by omega)
      have hjb : (jn (usesS k s ms) sComma).length ≤ 408 := by
        have h := jnB (B := 100) sComma (usesS k s ms) hub
        rw [hul] at h
        refine Nat.le_trans h ?_
        have : sComma.length = 2 := rfl
        rw [this]
        omega
      rw [hus] at huo hjb hul
      have hc : Lib.cut (f.txt ++ sBy ++ r ++ sFrom ++ jn (u :: ur) sComma) sFrom = (f.txt ++ sBy ++ r, jn (u :: ur) sComma, true) := by
        refine cut_at rfl ?_
        have e : f.txt ++ sBy ++ r ++ sFrom ++ jn (u :: ur) sComma = f.txt ++ (sBy ++ r ++ sFrom ++ jn (u :: ur) sComma) := by simp
        rw [e, txt_cut (r := sBy ++ r ++ sFrom ++ jn (u :: ur) sComma) hok ht (.inr (.inr ⟨_, rfl⟩)), rule_cut hrule]
        unfold sh
        rw [if_neg (by omega)]
        simp only [List.length_append]
        omega
      refine ⟨f.txt ++ sBy ++ r ++ sFrom ++ jn (u :: ur) sComma, by simp [lineP, h1, h2], ?_, .inr ⟨_, u :: ur, hc, by simp, by omega, huo⟩⟩
      simp [lineP, h1, h2]
      omega
mutual
theorem Pf.lines_law : ∀ (p : Pf) (k : Nat), p.fit → k + p.size ≤ 900 → Lines k (p.lines k) (p.refs k)
  | .mk r f n s ms, k, h, hk => by
    simp only [Pf.size] at hk
    have h' := h
    rw [Pf.fit] at h'
    simp only [Pf.lines, Pf.refs]
    refine (Pf.liness_law s k h'.2.2.2 (by omega)).append ?_
    rw [Pf.liness_len]
    exact ⟨fit_line h (by omega), trivial⟩
theorem Pf.liness_law : ∀ (s : List Pf) (k : Nat), Pf.fits s → k + Pf.sizes s ≤ 900 → Lines k (Pf.liness k s) (Pf.refss k s)
  | [], k, _, _ => trivial
  | p :: r, k, h, hk => by
    simp only [Pf.fits] at h
    simp only [Pf.sizes] at hk
    simp only [Pf.liness, Pf.refss]
    refine (Pf.lines_law p k h.1 (by omega)).append ?_
    rw [Pf.lines_len]
    exact Pf.liness_law r _ h.2 (by omega)
end
theorem last_line {r : Str} {f : F} {n : Nat} {s : List Pf} {ms : List (List Nat)} : ∃ ℓ, ((Pf.mk r f n s ms).lines 0)[Pf.sizes s]? = some ℓ ∧ Lib.contains ℓ f.txt = true := by
  refine ⟨lineP (0 + Pf.sizes s + 1) r f n (usesS 0 s ms), ?_, ?_⟩
  · simp only [Pf.lines]
    rw [List.getElem?_append_right (by rw [Pf.liness_len]; omega), Pf.liness_len, Nat.sub_self]; rfl
  · have key : ∀ a b : Str, Lib.contains (a ++ f.txt ++ b) f.txt = true := fun a b => by
      unfold Lib.contains; exact decide_eq_true (index_in a f.txt b)
    unfold lineP
    split
    · have := key (numS (0 + Pf.sizes s + 1) ++ sNum ++ sAssume ++ numS n ++ sComma) []
      simpa using this
    split
    · have := key (numS (0 + Pf.sizes s + 1) ++ sNum) sStill
      simpa using this
    split
    · have := key (numS (0 + Pf.sizes s + 1) ++ sNum) (sBy ++ r)
      simpa using this
    · have := key (numS (0 + Pf.sizes s + 1) ++ sNum) (sBy ++ r ++ sFrom ++ jn (usesS 0 s ms) sComma)
      simpa using this
end Go.Am.Do
namespace Go.Am
open Go.RowKit Go.ChangeShapes Go.WideShapes
theorem RunF.calls {Rs : Code → AC → Prop} {P : Program} {f : Nat} {fn : Func} (hfn : P.funcs[f]? = some fn) (hb : fn.body.isNone = false) (hn : (fn.name == "runtime.NumGoroutine") = false) {args : List AV} {σ : AState} {Q : AV → AState → Prop}
    (h : RunF Rs P f args σ Q) {w0 : World} {ρ : RMap} {D : List Nat × List Nat} {cargs : Array Value} {w : World} (ha : VRelL ρ args cargs.toList) (hS : SRel Rs P w0 ρ D σ w) :
    Calls P f cargs w fun e w' => ∃ cv, e = .returned cv ∧ After Rs P w0 σ.next ρ D Q cv w' := by
  obtain ⟨d, hd, hr⟩ := h w0 ρ D (.func (.func f) #[] #[]) cargs w (by simp only [VRel]; exact ⟨#[], #[], rfl, (fun _ q => by cases q), VRelL.mk_nil, VRelL.mk_nil⟩) ha hS
  have hd' : d = { target := .fn (.func f) #[], args := #[] ++ cargs } := by
    have : (Deferred.ofValue (.func (.func f) #[] #[]) cargs).run P w = .ok { target := .fn (.func f) #[], args := #[] ++ cargs } w := rfl
    rw [this] at hd; injection hd with hd; exact hd.symm
  subst hd'
  have hinv : (invoke (.fn (.func f) #[]) (#[] ++ cargs)).run P w = .ok (.enter f cargs) w := by
    simp only [invoke, callFunc, Sem.run_bind, run_program, Result.andThen_ok, hfn, hn, hb, Bool.false_eq_true, if_false, Sem.run_pure]
    simp
  simp only [hinv, NextOut] at hr
  exact hr
def startA (G : Nat) (gl : Nat → Option (List AV)) (l : List AV) : AState :=
  { get := fun i => if i < G then (gl i).map (fun l => .cells l false) else if i = G then some (.cells l false) else none, next := G + 1 }
theorem SRel.start {Rs : Code → AC → Prop} {P : Program} {w : World} {gl : Nat → Option (List AV)} {l : List AV} {m : Loc} (hG : ∀ g, g < P.globals.size → g < w.heap.size)
    (hgl : ∀ g xs, g < P.globals.size → gl g = some xs → ∀ k x, xs[k]? = some x → ∃ y, w.cell? ⟨g, k, none⟩ = some y ∧ ∀ ρ, VRel ρ x y)
    (hm : m.blk < w.heap.size) (hl : l.length ≤ m.ext) (hc : ∀ k x, l[k]? = some x → ∃ y, w.cell? ⟨m.blk, m.base + k, none⟩ = some y ∧ ∀ ρ, VRel ρ x y) :
    SRel Rs P w (fun i => if i < P.globals.size then some ⟨i, 0, ((gl i).getD []).length⟩ else if i = P.globals.size then some m else none) ([], []) (startA P.globals.size gl l) w where
  below := Below.refl _ _
  dom i hi := by
    have hi' : P.globals.size + 1 ≤ i := hi
    simp [startA, show ¬ i < P.globals.size by omega, show ¬ i = P.globals.size by omega]
  lt i l e := by
    by_cases h : i < P.globals.size
    · rw [if_pos h] at e; cases e; exact hG i h
    · rw [if_neg h] at e
      by_cases h2 : i = P.globals.size
      · rw [if_pos h2] at e; cases e; exact hm
      · rw [if_neg h2] at e; cases e
  blk i b lo e1 e2 := by
    by_cases h : i < P.globals.size
    · rw [if_pos h] at e2; cases e2
      simp only [startA, if_pos h] at e1
      cases hx : gl i with
      | none => rw [hx] at e1; cases e1
      | some xs =>
        rw [hx] at e1
        simp only [Option.map_some, Option.some.injEq] at e1
        subst e1
        refine ⟨by simp, fun k x hk => ?_, fun q => by cases q⟩
        obtain ⟨y, h1, h2⟩ := hgl i xs h hx k x hk
        exact ⟨y, by simpa using h1, h2 _⟩
    · rw [if_neg h] at e2
      simp only [startA, if_neg h] at e1
      by_cases h2 : i = P.globals.size
      · rw [if_pos h2] at e1 e2; cases e2; cases e1
        refine ⟨hl, fun k x hk => ?_, fun q => by cases q⟩
        obtain ⟨y, h1, h2⟩ := hc k x hk
        exact ⟨y, h1, h2 _⟩
      · rw [if_neg h2] at e2; cases e2
  sep i j b c l1 l2 hij e1 e2 r1 r2 := by
    have key : ∀ (i : Nat) (b : ABlk), (startA P.globals.size gl l).get i = some b → b.isCells = true ∧ b.wr = false := by
      intro i b e
      simp only [startA] at e
      by_cases h : i < P.globals.size
      · rw [if_pos h] at e
        cases hx : gl i with
        | none => rw [hx] at e; cases e
        | some xs => rw [hx] at e; simp only [Option.map_some, Option.some.injEq] at e; subst e; exact ⟨rfl, rfl⟩
      · rw [if_neg h] at e
        by_cases h2 : i = P.globals.size
        · rw [if_pos h2] at e; cases e; exact ⟨rfl, rfl⟩
        · rw [if_neg h2] at e; cases e
    obtain ⟨a1, a2⟩ := key i b e1
    obtain ⟨b1, b2⟩ := key j c e2
    exact .inr ⟨a1, b1, .inl ⟨a2, b2⟩⟩
  defs d hd := by cases hd
  nodup := List.nodup_nil
  loops d hd := by cases hd
  glob g hg := ⟨_, if_pos hg, rfl, rfl⟩
theorem start_ints {H : Type} {enc : TypeId × Value → H} {P : Program} {W : World} {t e : TypeId} {k : IntKind} {base : Nat} {v : Value} {d : DataW H} {p : List MemPlace} (ht : P.underlying t = some (.slice e)) (he : P.underlying e = some (.int k)) (hc : P.cellsOf e = 1)
    (hG : 0 < W.heap.size) (hval : Value.okWide P W .any base t v) (h : DataW.Trod enc P W 0 (fun _ => true) true t v d p) :
    ∃ (o : Option (Nat × Nat)) (len : Nat) (zs : List Int) (m : Loc), (o = none ∧ len = 0 ∨ o = some (P.globals.size, 0)) ∧ m.blk < W.heap.size ∧ (zs.map (AV.int k)).length ≤ m.ext ∧ len ≤ zs.length ∧
      (∀ j x, (zs.map (AV.int k))[j]? = some x → ∃ y, W.cell? ⟨m.blk, m.base + j, none⟩ = some y ∧ ∀ ρ, VRel ρ x y) ∧ (∀ z ∈ zs, k.min ≤ z ∧ z ≤ k.max) ∧
      ∀ ρ : RMap, ρ P.globals.size = some m → VRel ρ (.slice o len none 1) v := by
  obtain ⟨a1, len, cap, rfl⟩ := okWide_slice ht hval
  obtain ⟨fuel, hf⟩ := h
  rcases open_ints ht he hc hf with ⟨hcs, hx⟩ | ⟨a, len', cap', zs, hcs, _, hl, hm, hz, hx, hcell, hwz⟩
  · simp [Value.cells] at hcs
    obtain ⟨rfl, rfl, rfl⟩ := hcs
    exact ⟨none, 0, [], ⟨0, 0, 0⟩, .inl ⟨rfl, rfl⟩, hG, Nat.le_refl _, Nat.le_refl _, (fun j x q => by simp at q), (fun z hz => by cases hz), (fun ρ _ => by simp [VRel, SlRel])⟩
  · simp [Value.cells] at hcs
    obtain ⟨rfl, rfl, rfl⟩ := hcs
    simp only [if_true] at hz
    have hhas : P.cellsOf e = 1 ∧ a.spot = none ∧ a.block < W.heap.size := by
      unfold Value.okWide at hval
      simp only [ht] at hval
      unfold Cell.okWide at hval
      simp only [ht] at hval
      unfold Cell.ok at hval
      simp only [ht] at hval
      obtain ⟨_, _, _, h2, row, cells, h3, _⟩ := hval
      refine ⟨hc, h2, ?_⟩
      rcases Nat.lt_or_ge a.block W.heap.size with q | q
      · exact q
      · exfalso
        unfold World.shape? at h3
        rw [Array.getElem?_eq_none q] at h3
        simp at h3
    obtain ⟨_, hspot, hblk⟩ := hhas
    obtain ⟨b, off, spot⟩ := a
    simp only at hspot hblk
    subst hspot
    refine ⟨some (P.globals.size, 0), len, zs, ⟨b, off, cap⟩, .inr rfl, hblk, by simp [hz], by omega, fun j x hj => ?_, fun z hz' => ?_, fun ρ hρ => ?_⟩
    · rw [List.getElem?_map, Option.map_eq_some_iff] at hj
      obtain ⟨z, hj, rfl⟩ := hj
      have hlt : j < zs.length := by
        rcases Nat.lt_or_ge j zs.length with q | q
        · exact q
        · rw [List.getElem?_eq_none q] at hj; cases hj
      refine ⟨.int k z, ?_, fun ρ => VRel.int⟩
      have := hcell j hlt
      rw [show zs.getD j 0 = z by simp [List.getD, hj]] at this
      rw [Addr.add] at this
      split at this
      · rename_i q; subst q; exact this
      · exact this
    · simpa [Lit.wf] using hwz z hz'
    · simp only [VRel, SlRel]
      exact ⟨⟨b, off, cap⟩, ⟨b, off, none⟩, cap, hρ, rfl, rfl, .inr ⟨rfl, rfl⟩, hl, .inr (by show 0 + cap * 1 ≤ cap; omega), (fun c q => by cases q)⟩
theorem glob_lt {P : Program} {W : World} (h : W.ShapedOpen P) (hk : ((List.range P.globals.size).all fun g => (((begin P (fun _ _ => 0) default).world.heap[g]?).bind Obj.row?).isSome) = true) : ∀ g, g < P.globals.size → g < W.heap.size := fun g hg => by
  have h1 := List.all_eq_true.1 hk g (by simpa using hg)
  obtain ⟨⟨zero, t⟩, h2⟩ := Option.isSome_iff_exists.1 h1
  obtain ⟨cs, hh, _, _⟩ := h.1 g zero t hg h2
  exact (Array.getElem?_eq_some_iff.1 hh).1
theorem int_of_shape {P : Program} {w : World} {g : Nat} {t : TypeId} {k : IntKind} (h : w.ShapedOpen P) (hg : g < P.globals.size)
    (h0 : (((begin P (fun _ _ => 0) default).world.heap[g]?).bind Obj.row?).map (fun x => (x.1.size, x.2)) = some (1, t))
    (hb : P.buildable t = true) (hc : P.cellTypes P.depth t = some [t]) (hu : P.underlying t = some (.int k)) : ∃ n, w.cell? ⟨g, 0, none⟩ = some (.int k n) := by
  obtain ⟨⟨zero, t'⟩, h00, h1⟩ := Option.map_eq_some_iff.1 h0
  simp only [Prod.mk.injEq] at h1
  obtain ⟨hz, rfl⟩ := h1
  obtain ⟨cs, hh, hs, hr⟩ := h.1 g zero t' hg h00
  obtain ⟨ts, hts, _, hall⟩ := hr hb
  rw [hc] at hts
  cases hts
  have h1 : 0 < cs.size := by omega
  obtain ⟨u, hu', hok⟩ := hall 0 cs[0] (by simp [h1])
  have : u = t' := by simpa using hu'.symm
  subst this
  have hcell : w.cell? ⟨g, 0, none⟩ = some cs[0] := by simp [World.cell?, hh, h1]
  rw [hcell]
  unfold Cell.ok at hok
  rw [hu] at hok
  cases hv : cs[0] <;> rw [hv] at hok <;> first | (obtain ⟨rfl, _⟩ := hok; exact ⟨_, rfl⟩) | simp at hok
end Go.Am
