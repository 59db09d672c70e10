/-
  A PART of the proof: ApW33, ApW34, ApXapart.
-/
import Derived.Test.YtndfemigjgpdlaaGreatDoorT07
import Derived.Test.YtndfemigjgpdlaaGreatDoorT06
set_option linter.unusedSimpArgs false
set_option linter.unusedVariables false
namespace Go.Am
open Go.RowKit Go.Proofs Do
set_option maxRecDepth 100000
abbrev tellA (io il : Nat) : AV := .func (.func n_describe_ProofS1) [] [.ptr (some (il, 0)), .ptr (some (io, 0))]
structure TOut (σB : AState) (io il : Nat) (σ : AState) (lines : List Str) (o : Option (Nat × Nat)) (n : Nat) (c : Option Nat) (z : Nat) : Prop where
  out : σ.get io = some (.cells [.slice o n c z] true)
  look : σ.get il = some (.cells [tellA io il] true)
  grown : Grown σB σ o n c z 1 (lines.map .str)
  ne : io ≠ il
  geo : σB.next ≤ io
  gel : σB.next ≤ il
  neo : o ≠ some (io, 0)
  nel : o ≠ some (il, 0)
theorem TOut.push {σB : AState} {io il : Nat} {σ : AState} {lines : List Str} {o : Option (Nat × Nat)} {n : Nat} {c : Option Nat} {z : Nat} (h : TOut σB io il σ lines o n c z) (b : ABlk) : TOut σB io il (σ.push b) lines o n c z :=
  ⟨sub_push h.grown.wf b _ _ h.out, sub_push h.grown.wf b _ _ h.look, h.grown.push b, h.ne, h.geo, h.gel, h.neo, h.nel⟩
abbrev TOwn (io : Nat) (o : Option (Nat × Nat)) : Nat → Prop := fun j => j = io ∨ o = some (j, 0)
structure TLive (ts : List AV) (v1 v2 v3 v5 v12 v13 v14 : AV) : Prop where
  len : ts.length = 106
  t1 : ts.getD 1 U = v1
  t2 : ts.getD 2 U = v2
  t3 : ts.getD 3 U = v3
  t5 : ts.getD 5 U = v5
  t12 : ts.getD 12 U = v12
  t13 : ts.getD 13 U = v13
  t14 : ts.getD 14 U = v14
theorem TLive.open {ts : List AV} {v1 v2 v3 v5 v12 v13 v14 : AV} (h : TLive ts v1 v2 v3 v5 v12 v13 v14) : ∃ a : Nat → AV, ts = [a 0, v1, v2, v3, a 4, v5, a 6, a 7, a 8, a 9, a 10, a 11, v12, v13, v14, a 15, a 16, a 17, a 18, a 19, a 20, a 21, a 22, a 23, a 24, a 25, a 26, a 27, a 28, a 29, a 30, a 31, a 32, a 33, a 34, a 35, a 36, a 37, a 38, a 39, a 40, a 41, a 42, a 43, a 44, a 45, a 46, a 47, a 48, a 49, a 50, a 51, a 52, a 53, a 54, a 55, a 56, a 57, a 58, a 59, a 60, a 61, a 62, a 63, a 64, a 65, a 66, a 67, a 68, a 69, a 70, a 71, a 72, a 73, a 74, a 75, a 76, a 77, a 78, a 79, a 80, a 81, a 82, a 83, a 84, a 85, a 86, a 87, a 88, a 89, a 90, a 91, a 92, a 93, a 94, a 95, a 96, a 97, a 98, a 99, a 100, a 101, a 102, a 103, a 104, a 105] := by
  have h1 := list_range h.len
  refine ⟨fun i => ts.getD i U, ?_⟩
  rw [← h.t1, ← h.t2, ← h.t3, ← h.t5, ← h.t12, ← h.t13, ← h.t14]
  exact h1
theorem strs3 {σ : AState} {a b c : Str} : Strs (σ.push (.cells [.str a, .str b, .str c] true)).get (some (σ.next, 0)) 3 1 [a, b, c] := strs_new rfl rfl
structure TEnd (ts : List AV) (v2 v9 v10 : AV) : Prop where
  len : ts.length = 106
  t2 : ts.getD 2 U = v2
  t9 : ts.getD 9 U = v9
  t10 : ts.getD 10 U = v10
theorem TEnd.open {ts : List AV} {v2 v9 v10 : AV} (h : TEnd ts v2 v9 v10) : ∃ a : Nat → AV, ts = [a 0, a 1, v2, a 3, a 4, a 5, a 6, a 7, a 8, v9, v10, a 11, a 12, a 13, a 14, a 15, a 16, a 17, a 18, a 19, a 20, a 21, a 22, a 23, a 24, a 25, a 26, a 27, a 28, a 29, a 30, a 31, a 32, a 33, a 34, a 35, a 36, a 37, a 38, a 39, a 40, a 41, a 42, a 43, a 44, a 45, a 46, a 47, a 48, a 49, a 50, a 51, a 52, a 53, a 54, a 55, a 56, a 57, a 58, a 59, a 60, a 61, a 62, a 63, a 64, a 65, a 66, a 67, a 68, a 69, a 70, a 71, a 72, a 73, a 74, a 75, a 76, a 77, a 78, a 79, a 80, a 81, a 82, a 83, a 84, a 85, a 86, a 87, a 88, a 89, a 90, a 91, a 92, a 93, a 94, a 95, a 96, a 97, a 98, a 99, a 100, a 101, a 102, a 103, a 104, a 105] := by
  have h1 := list_range h.len
  refine ⟨fun i => ts.getD i U, ?_⟩
  rw [← h.t2, ← h.t9, ← h.t10]
  exact h1
def TInv (σB : AState) (io il : Nat) (σ1 : AState) (bp : Nat) (o : Option (Nat × Nat)) (lines : List Str) (k : Nat) (s : List Pf) (ms : List (List Nat)) (vs : AV) (ts : List AV) (σ' : AState) (m' : Nat) : Prop :=
  ∃ (i : Nat) (o' : Option (Nat × Nat)) (c' : Option Nat) (z' : Nat) (uo : Option (Nat × Nat)) (uc : Option Nat) (uz : Nat), i + m' = s.length ∧ TOut σB io il σ' (lines ++ Pf.liness k (s.take i)) o' (k + Pf.sizes (s.take i)) c' z' ∧ Kept (TOwn io o) σ1 σ' ∧
      (∀ j, o' = some (j, 0) → o = some (j, 0) ∨ σ1.next ≤ j) ∧ Grown σB σ' uo i uc uz 1 ((usesS k (s.take i) (ms.take i)).map .str) ∧ (∀ j, uo = some (j, 0) → σ1.next ≤ j ∧ o' ≠ some (j, 0)) ∧
      TLive ts (.ptr (some (il, 0))) (.ptr (some (io, 0))) (.ptr (some (bp, 0))) (.slice uo i uc uz) vs (.int .i64 s.length) (.int .i64 i)
theorem useS_len (N : Nat) {mk : List Nat} (h : mk.length ≤ 3) : (useS N mk).length ≤ 100 := by
  have hn := numS_len N
  cases mk with
  | nil => show (numS N).length ≤ 100; omega
  | cons y yr =>
    have hlb := jn_bound (B := 3) sAnd ((y :: yr).map numS) (fun s hs => by obtain ⟨x, _, rfl⟩ := List.mem_map.1 hs; exact (numS_len x).2)
    have hlb2 : (listS (y :: yr)).length ≤ 30 := by
      unfold listS
      simp only [List.length_map, List.length_cons, List.length_nil] at hlb h ⊢
      refine Nat.le_trans hlb ?_
      have : yr.length ≤ 2 := by omega
      omega
    have := jn_bound (B := 30) sp [numS N, sEnding, listS (y :: yr)] (fun s hs => by
      simp only [List.mem_cons, List.not_mem_nil, or_false] at hs
      rcases hs with rfl | rfl | rfl
      · omega
      · simp
      · exact hlb2)
    simp only [List.length_cons, List.length_nil] at this
    exact Nat.le_trans this (by omega)
theorem usesS_bound : ∀ (l : List Pf) (ms : List (List Nat)) (k : Nat), (∀ m ∈ ms, m.length ≤ 3) → ∀ u ∈ usesS k l ms, u.length ≤ 100
  | [], ms, k, h, u, hu => by cases ms <;> simp [usesS] at hu
  | p :: r, [], k, h, u, hu => by simp [usesS] at hu
  | p :: r, m :: ms, k, h, u, hu => by
    simp only [usesS, List.mem_cons] at hu
    rcases hu with rfl | hu
    · exact useS_len _ (h m (by simp))
    · exact usesS_bound r ms _ (fun x hx => h x (by simp [hx])) u hu
set_option maxHeartbeats 4000000 in
theorem tell_ok {σB : AState} {io il : Nat} {pw : Bool} (hpow : σB.get 1 = some (.cells pow10L pw)) : ∀ (m : Nat) (p : Pf), p.size ≤ m → p.fit → ∀ (σ : AState) (lines : List Str) (xs : List AV) (o : Option (Nat × Nat)) (k : Nat) (c : Option Nat) (z : Nat), TOut σB io il σ lines o k c z → k + p.size ≤ 900 → DAtL σB.get p.dv xs →
    RunV RR Tryz.prog (tellA io il) [.agg xs] σ (fun u σ' => u = .int .i64 ((k + p.size : Nat) : Int) ∧ ∃ o' c' z', TOut σB io il σ' (lines ++ p.lines k) o' (k + p.size) c' z' ∧ Kept (TOwn io o) σ σ' ∧ ∀ j, o' = some (j, 0) → σ.next ≤ j) := by
  intro m
  induction m using Nat.strongRecOn with
  | _ m ih =>
  intro p hpm hfit σ lines xs o k c z hO hk hD
  refine runF_intro hmx rf_describe_ProofS1 ?_
  obtain ⟨r, f, n, s, ms, ep⟩ := proof_is p
  obtain ⟨fo, fn, fa, fl, ef⟩ := form_is f
  subst ep
  rw [Pf.fit] at hfit
  obtain ⟨hr, ht, hcase, hsub⟩ := hfit
  have hfsz := right_sizes hr
  have hfok : f.ok := by
    have h := hr
    simp only [F.right, Bool.and_eq_true, decide_eq_true_eq] at h
    exact F.shape_ok _ h.2
  have hftx := F.txt_len f ht
  obtain ⟨o1, c1, z1, o2, c2, z2, o3, c3, z3, o4, c4, z4, rfl, hFd, hP, hM⟩ := Pf.cells (by rw [ef] at hD; exact hD)
  have hW := hO.grown.wf
  have hslen : s.length ≤ 4 := by rcases hcase with ⟨_, h, _⟩ | ⟨_, h, _⟩ | ⟨_, _, h, _⟩ <;> simp_all
  have hmlen : ms.length = s.length := by rcases hcase with ⟨_, h, h', _⟩ | ⟨_, h, h', _⟩ | ⟨_, _, _, h, _⟩ <;> simp_all
  have hms : ∀ l ∈ ms, l.length ≤ 3 ∧ ∀ k ∈ l, k ≤ 999 := by
    rcases hcase with ⟨_, _, h, _⟩ | ⟨_, _, h, _⟩ | ⟨_, _, _, _, h⟩
    · intro l hl; rw [h] at hl; cases hl
    · intro l hl; rw [h] at hl; cases hl
    · exact h
  have hn999 : n ≤ 999 := by rcases hcase with ⟨_, _, _, _, h⟩ | ⟨_, _, _, h⟩ | ⟨_, h, _⟩ <;> omega
  have hpsz : (Pf.mk r f n s ms).size = 1 + Pf.sizes s := rfl
  rw [hpsz] at hpm hk ⊢
  have hO1 := hO.push (.cells [.str r, .int .u8 fo, .str fn, .slice o1 fa.length c1 z1, .slice o2 fl.length c2 z2, .int .i64 n, .slice o3 s.length c3 z3, .slice o4 ms.length c4 z4] true)
  have hb1 := Vg (σ := σ) (b := .cells [.str r, .int .u8 fo, .str fn, .slice o1 fa.length c1 z1, .slice o2 fl.length c2 z2, .int .i64 n, .slice o3 s.length c3 z3, .slice o4 ms.length c4 z4] true)
  have hK1 : Kept (TOwn io o) σ (σ.push (.cells [.str r, .int .u8 fo, .str fn, .slice o1 fa.length c1 z1, .slice o2 fl.length c2 z2, .int .i64 n, .slice o3 s.length c3 z3, .slice o4 ms.length c4 z4] true)) := (Kept.refl hW).push _
  have hnx : (σ.push (.cells [.str r, .int .u8 fo, .str fn, .slice o1 fa.length c1 z1, .slice o2 fl.length c2 z2, .int .i64 n, .slice o3 s.length c3 z3, .slice o4 ms.length c4 z4] true)).next = σ.next + 1 := rfl
  simp -implicitDefEqProofs (maxDischargeDepth := 15) only [Yr, Ys, Yt, Wj, Wk, Wm, Wo, opA, Wv, Ww, Wx, Wy, Wz, Za, Zb, List.replicate, Zc, Zd, Vb, Vc, Vd, AV.cells, Vg, partA, Zf, Zg, Nat.reduceAdd, Nat.reduceSub, Zk, Zq, Zr, i_describe_ProofS1, c29_15, c29_38, c29_39, c29_40]
  generalize (σ.push (.cells [.str r, .int .u8 fo, .str fn, .slice o1 fa.length c1 z1, .slice o2 fl.length c2 z2, .int .i64 n, .slice o3 s.length c3 z3, .slice o4 ms.length c4 z4] true)) = σ1 at *
  have hne : io ≠ σ.next := by have := hW.lt hO.out; omega
  have hone : o ≠ some (σ.next, 0) := fun q => by have := (hO.grown.at_lt q).2; omega
  have hoil : ∀ j, o = some (j, 0) → j < σ.next := fun j q => (hO.grown.at_lt q).2
  have hiol := hW.lt hO.out
  have hO1' := hO1
  show wpC RR Tryz.prog (.loop c29_13) _ _ _
  refine wp_loopK (TInv σB io il σ1 σ.next o lines k s ms (.slice o3 s.length c3 z3)) s.length
    ⟨0, o, c, z, none, some 0, 0, by omega, by simpa [Pf.liness, Pf.sizes] using hO1, Kept.refl hK1.wf, fun j q => .inl q, by simpa [usesS] using Grown.nil hO1.grown.wf0 hO1.grown.wf hO1.grown.keep hO1.grown.le _ _ _, (fun j q => by cases q), rfl, rfl, rfl, rfl, rfl, rfl, rfl, rfl⟩ ?_
  rintro m' ts σ' ⟨i, o', c', z', uo, uc, uz, him, hOi, hKi, hoi, hGu, huo, hL⟩
  obtain ⟨a, rfl⟩ := hL.open
  have hbk := hKi.keep σ.next _ (by rintro (q | q); exact hne q.symm; exact hone q) hb1
  have hbkl := hKi.wf.lt hbk
  have hoib : o' ≠ some (σ.next, 0) := fun q => by
    rcases hoi _ q with h | h
    · exact hone h
    · omega
  have hle1 := hKi.le
  by_cases hlt : i < s.length
  · obtain ⟨t, hti, htm⟩ := get_lt (l := s) (k := i) hlt
    obtain ⟨mk, hmi, hmm⟩ := get_lt (l := ms) (k := i) (by omega)
    obtain ⟨rfl, ip, offp, csp, wp, rfl, hgp, hlp8, xsp, hxsp, hdp⟩ := hP.elem hti
    obtain ⟨rfl, im, offm, csm, wm, rfl, hgm, om, cm, zm, hcm, hIs⟩ := hM.elem hmi
    have hgp' := hOi.grown.keep _ _ hgp
    have hpl := hKi.wf.lt hgp'
    obtain ⟨hml3, hmv⟩ := hms mk hmm
    obtain ⟨pr, pf, pn, psl, pm, ept⟩ := proof_is t
    obtain ⟨fo', fn', fa', fl', eft⟩ := form_is pf
    subst eft
    have hdp0 := hdp
    rw [ept] at hdp
    obtain ⟨p1, q1, y1, p2, q2, y2, p3, q3, y3, p4, q4, y4, rfl, _, _, _⟩ := Pf.cells hdp
    rw [← ept] at hdp
    have e1 : (0 : Int) ≤ (i : Int) ∧ (i : Int) < (s.length : Int) := by omega
    have e2 : (0 : Int) ≤ (i : Int) ∧ (i : Int) < (ms.length : Int) := by omega
    have d5 : decide ((i : Int) < (s.length : Int)) = true := decide_eq_true (by omega)
    have hlk := hOi.look
    have hlkl := hKi.wf.lt hlk
    have hsz := sizes_take_le hti
    have hts : t.size ≤ Pf.sizes s := psize_mem htm
    simp -implicitDefEqProofs (maxDischargeDepth := 15) only [↓reduceIte, Yr, Ys, Yt, Yz, Wb, Wg, Wj, Wk, Wl, Wm, Wo, opA, Wv, Wx, Wy, Wz, Va, Za, Zb, Zd, Ze, Vb, Vc, Vd, Ve, AV.cells, Vg, Vh, Vn, partA, Zf, Zg, Zh, Zi, Nat.reduceAdd, Zj, Zk, Zm, Zn, Zo, Zp, Zq, Zs, Zt, binA, putL, allOne, Zu, Zv, AV.one, Zy, and_self, Yf, eq_self, Yp, c29_0, c29_1, c29_2, c29_3, c29_4, c29_5, c29_7, c29_8, c29_9, c29_11, c29_12, c29_13, e1, hgp', hlp8, hxsp, hlk, hlkl]
    refine (ih t.size (by omega) t (Nat.le_refl _) (pfits_all.1 hsub t htm) _ _ _ _ _ _ _ (hOi.push _) (by omega) hdp0).mono ?_
    rintro u σ2 ⟨rfl, o2', c2', z2', hO2, hK2, ho2⟩
    have hK12 : Kept (TOwn io o) σ1 σ2 := ⟨Nat.le_trans hKi.le (Nat.le_of_succ_le hK2.le), fun j b q e => hK2.keep j b (fun q2 => by
      rcases q2 with q2 | q2
      · exact q (.inl q2)
      · rcases hoi _ q2 with h | h
        · exact q (.inr h)
        · have := hK1.wf.lt e; omega) (sub_push hKi.wf _ _ _ (hKi.keep j b q e)), hK2.wf⟩
    have hb2 := hK12.keep σ.next _ (by rintro (q | q); exact hne q.symm; exact hone q) hb1
    have hb2l := hK2.wf.lt hb2
    have hle12 := hK12.le
    have hle2 : σ'.next + 1 ≤ σ2.next := hK2.le
    have hgm2 := hO2.grown.keep _ _ hgm
    have hml2 := hK2.wf.lt hgm2
    have hIs2 := hIs.sub hO2.grown.keep
    have hGu2 : Grown σB σ2 uo i uc uz 1 ((usesS k (s.take i) (ms.take i)).map .str) := (hGu.push (.cells [.str pr, .int .u8 fo', .str fn', .slice p1 fa'.length q1 y1, .slice p2 fl'.length q2 y2, .int .i64 pn, .slice p3 psl.length q3 y3, .slice p4 pm.length q4 y4] true)).keptBy hK2 (fun j q q2 => by
      rcases q2 with q2 | q2
      · have := (huo j q).1; omega
      · exact (huo j q).2 q2) (fun j q => by
      rcases q with q | q
      · rw [q]; exact hO.geo
      · exact (hOi.grown.at_lt q).1)
    have huo2 : ∀ j, uo = some (j, 0) → σ1.next ≤ j ∧ o2' ≠ some (j, 0) := fun j q => ⟨(huo j q).1, fun q2 => by have h1 := ho2 j q2; have h2 := (hGu.at_lt q).2; simp only [AState.push_next] at h1; omega⟩
    have ho2' : ∀ j, o2' = some (j, 0) → σ1.next ≤ j := fun j q => by have := ho2 j q; simp only [AState.push_next] at this; omega
    have hnum : k + Pf.sizes (s.take i) + t.size < 1000 := by omega
    simp -implicitDefEqProofs (maxDischargeDepth := 15) only [Wb, Wu, Wv, Ww, Wx, Wy, Wz, Za, Zb, Zh, Zi]
    refine RunV.to (itoaN_ok hnum (hO2.grown.keep _ _ hpow)) ?_
    have hlines : lines ++ Pf.liness k (s.take i) ++ t.lines (k + Pf.sizes (s.take i)) = lines ++ Pf.liness k (s.take (i + 1)) := by rw [liness_take k hti, List.append_assoc]
    rw [hlines] at hO2
    have hsz2 : k + Pf.sizes (s.take i) + t.size = k + Pf.sizes (s.take (i + 1)) := by rw [sizes_take hti, Nat.add_assoc]
    have hus : (usesS k (s.take (i + 1)) (ms.take (i + 1))).map AV.str = (usesS k (s.take i) (ms.take i)).map AV.str ++ [.str (useS (k + Pf.sizes (s.take i) + t.size) mk)] := by rw [usesS_take k hti hmi]; simp
    have w6 : wrapF .i64 ((i : Int) + 1) = ((i + 1 : Nat) : Int) := by rw [wrap_i64 (by omega)]; rfl
    have hend : ∀ (Qn : Ex → List AV → AState → Prop), (∀ ts σ4, TInv σB io il σ1 σ.next o lines k s ms (.slice (some (ip, offp)) s.length c3 8) ts σ4 (m' - 1) → Qn .normal ts σ4) → ∀ (σ3 : AState) (ts : List AV) (v8 : AV), Grow σ2 σ3 → v8 = .str (useS (k + Pf.sizes (s.take i) + t.size) mk) → TLive ts (.ptr (some (il, 0))) (.ptr (some (io, 0))) (.ptr (some (σ.next, 0))) (.slice uo i uc uz) (.slice (some (ip, offp)) s.length c3 8) (.int .i64 s.length) (.int .i64 i) → ts.getD 8 U = v8 →
        wpC RR Tryz.prog c29_6 ts σ3 (BlockK 1 (SeqK RR Tryz.prog c29_10 Qn)) := by
      intro Qn hQn σ3 ts v8 hG3 hv8 hL3 h8
      subst hv8
      obtain ⟨a, rfl⟩ := hL3.open
      simp only [Wy, Wx] at h8
      have hGu3 := (hGu2.grow hG3).push (.cells [.str (useS (k + Pf.sizes (s.take i) + t.size) mk)] true)
      obtain ⟨es, he, hGu4, hKu4⟩ := hGu3.kept (bytes := 16) (xs := [.str (useS (k + Pf.sizes (s.take i) + t.size) mk)]) (by omega) rfl rfl (decide_eq_true (by omega))
      have hG3p := hG3.push (.cells [.str (useS (k + Pf.sizes (s.take i) + t.size) mk)] true)
      have hnx3 : σ3.next < (σ3.push (.cells [.str (useS (k + Pf.sizes (s.take i) + t.size) mk)] true)).next := Nat.lt_succ_self _
      simp -implicitDefEqProofs (maxDischargeDepth := 15) only [↓reduceIte, Yr, Ys, Yt, Wj, Wo, Wr, opA, Wv, Ww, Wx, Wy, Wz, Za, Zb, Zd, Ze, Vb, Vc, Vd, AV.cells, Vg, Zf, Zg, Zh, Zi, Zj, Zk, Zm, Zn, Zo, Zp, Zs, Zt, binA, fillA, and_self, lenA, firstA, eq_self, c29_6, c29_10, h8, he, w6]
      have hlt1 : ∀ j b, σ1.get j = some b → uo ≠ some (j, 0) := fun j b e q => by have := (huo j q).1; have := hK1.wf.lt e; omega
      refine hQn _ _ ⟨i + 1, o2', c2', z2', _, _, _, by omega, ?_, ⟨Nat.le_trans hK12.le (Nat.le_trans hG3p.le hKu4.le), fun j b q e => hKu4.keep j b (hlt1 j b e) (hG3p.sub _ _ (hK12.keep j b q e)), hKu4.wf⟩, fun j q => .inr (ho2' j q), by rw [hus]; exact hGu4, fun j q => ?_, rfl, rfl, rfl, rfl, rfl, rfl, rfl, rfl⟩
      · rw [← hsz2]
        exact ⟨hKu4.keep io _ (hlt1 io _ hO1.out) (hG3p.sub _ _ hO2.out), hKu4.keep il _ (hlt1 il _ hO1.look) (hG3p.sub _ _ hO2.look), (hO2.grown.grow hG3p).keptBy hKu4 (fun j q q2 => (huo2 j q2).2 q) (fun j q => (hGu.at_lt q).1), hO2.ne, hO2.geo, hO2.gel, hO2.neo, hO2.nel⟩
      · have hle3 := hG3.le
        simp only [Option.some.injEq, Prod.mk.injEq, and_true] at q
        subst q
        refine ⟨by omega, fun q => ?_⟩
        have := (hO2.grown.at_lt q).2
        omega
    cases mk with
    | nil =>
      simp -implicitDefEqProofs (maxDischargeDepth := 15) only [↓reduceIte, Yr, Ys, Yt, Wa, Wg, Wj, Wk, Wl, Wo, Wu, opA, Wv, Ww, Wx, Wy, Wz, Za, Zb, Vb, partA, Zg, Zk, Zq, Zr, binA, and_self, Yf, eq_self, hb2, hgm2, hcm, e2, Nat.mul_one, show decide (((0 : Nat) : Int) > 0) = false from rfl]
      refine hend _ ?_ _ _ (.str (useS (k + Pf.sizes (s.take i) + t.size) [])) (Grow.refl hK2.wf) ?_ ?_ ?_
      · exact fun ts' σ4 h => ⟨m' - 1, by omega, h⟩
      · rfl
      · exact ⟨rfl, rfl, rfl, rfl, rfl, rfl, rfl, rfl⟩
      · rfl
    | cons y yr =>
      have dpos : decide (((y :: yr).length : Int) > 0) = true := decide_eq_true (by simp only [List.length_cons]; omega)
      have dpos2 : decide (((yr.length + 1 : Nat) : Int) > 0) = true := decide_eq_true (by omega)
      simp -implicitDefEqProofs (maxDischargeDepth := 15) only [↓reduceIte, Yr, Ys, Yt, Yz, Wb, Wj, Wk, Wl, Wo, Wu, opA, Wv, Ww, Wx, Wy, Wz, Za, Zb, Vb, partA, Zf, Zh, Zi, Zk, Zq, Zr, binA, and_self, Yf, eq_self, hb2, hgm2, hcm, e2, Nat.mul_one, dpos2]
      refine RunV.to (list_ok hIs2 hmv (by omega) (hO2.grown.keep _ _ hpow)) ?_
      simp -implicitDefEqProofs (maxDischargeDepth := 15) only [↓reduceIte, Ys, Yt, Wb, Wu, opA, Wv, Ww, Wx, Wy, Wz, Za, Zb, Zc, Zd, Ze, Vb, Vc, Vd, AV.cells, Zf, Zg, Zh, Zi, Nat.reduceAdd, Nat.reduceLeDiff, Zj, Zk, Zm, Zn, Zo, Zp, Zs, fillA, and_self, eq_self]
      have hnl := numS_len (k + Pf.sizes (s.take i) + t.size)
      have hlb := jn_bound (B := 3) sAnd ((y :: yr).map numS) (fun s hs => by obtain ⟨x, _, rfl⟩ := List.mem_map.1 hs; exact (numS_len x).2)
      have hlb2 : (listS (y :: yr)).length ≤ 30 := by
        unfold listS
        simp only [List.length_map, List.length_cons, List.length_nil] at hlb hml3 ⊢
        refine Nat.le_trans hlb ?_
        have : yr.length ≤ 2 := by omega
        omega
      refine RunV.to (join_ok strs3 ?_ (by omega)) ?_
      · have := jn_bound (B := 30) sp [numS (k + Pf.sizes (s.take i) + t.size), sEnding, listS (y :: yr)] (fun s hs => by
          simp only [List.mem_cons, List.not_mem_nil, or_false] at hs
          rcases hs with rfl | rfl | rfl
          · omega
          · simp
          · exact hlb2)
        simp only [List.length_cons, List.length_nil] at this
        exact Nat.le_trans this (by omega)
      · simp -implicitDefEqProofs (maxDischargeDepth := 15) only [Yr, Ys, Yt, Wo, Wu, opA, Wv, Wx, Wy, Wz, Za, Zb, Vb]
        refine hend _ ?_ _ _ (.str (useS (k + Pf.sizes (s.take i) + t.size) (y :: yr))) ((Grow.refl hK2.wf).push _) ?_ ?_ ?_
        · exact fun ts' σ4 h => ⟨m' - 1, by omega, h⟩
        · rfl
        · exact ⟨rfl, rfl, rfl, rfl, rfl, rfl, rfl, rfl⟩
        · rfl
  · have d5 : decide ((i : Int) < (s.length : Int)) = false := decide_eq_false (by omega)
    have hti : s.take i = s := List.take_of_length_le (by omega)
    have hmi : ms.take i = ms := List.take_of_length_le (by omega)
    rw [hti] at hOi hGu
    rw [hmi] at hGu
    have his : i = s.length := by omega
    subst his
    simp -implicitDefEqProofs (maxDischargeDepth := 15) only [↓reduceIte, Yr, Ys, Yt, Wa, Wi, Wj, Wk, Wl, Wo, Wp, Ws, opA, Wv, Wx, Wy, Wz, Za, Zb, Vb, binA, eq_self, c29_0, c29_1, c29_2, c29_3, c29_4, c29_5, c29_6, c29_7, c29_8, c29_9, c29_10, c29_11, c29_12, c29_13, d5, lk_e]
    have hK01 : Kept (TOwn io o) σ σ' := hK1.trans hKi
    have hout := hOi.out
    have hlook := hOi.look
    have w1 : wrapF .i64 (((k + Pf.sizes s : Nat) : Int) + 1) = ((k + Pf.sizes s + 1 : Nat) : Int) := by rw [wrap_i64 (by omega)]; rfl
    simp -implicitDefEqProofs (maxDischargeDepth := 15) only [↓reduceIte, Yr, Ys, Yt, Wb, Wj, Wk, Wo, opA, Wv, Ww, Wx, Wy, Wz, Za, Zb, Vb, partA, Zh, Zi, Zq, binA, eq_self, c29_16, c29_35, c29_36, c29_37, hout, w1]
    refine RunV.to (itoaN_ok (by omega) (hOi.grown.keep _ _ hpow)) ?_
    have hFd' : DAtL σ'.get f.dv [.int .u8 fo, .str fn, .slice o1 fa.length c1 z1, .slice o2 fl.length c2 z2] := by rw [ef]; exact DAtL.sub hOi.grown.keep _ _ hFd
    have htxt := text_ok _ f (Nat.le_refl _) (by omega) hfok (by omega) _ _ hFd'
    have hnl := numS_len (k + Pf.sizes s + 1)
    have hnl2 := numS_len n
    have q1 : (numS (k + Pf.sizes s + 1)).length + (0 + 1 + 1) < 9223372036854775808 := by omega
    have q1' : (numS (k + Pf.sizes s + 1)).length + 2 < 9223372036854775808 := by omega
    simp -implicitDefEqProofs (maxDischargeDepth := 15) only [↓reduceIte, Yr, Ys, Yt, Wk, Wm, Wo, Wu, opA, Wv, Ww, Wx, Wy, Wz, Za, Zb, Vb, Zf, Zg, Nat.reduceAdd, Zk, binA, q1]
    have hend : ∀ (ts : List AV), TEnd ts (.ptr (some (io, 0))) (.int .i64 ((k + Pf.sizes s + 1 : Nat) : Int)) (.str (lineP (k + Pf.sizes s + 1) r f n (usesS k s ms))) →
        wpC RR Tryz.prog c29_34 ts σ' (EndOk [(4, none)] fun u σ' => u = .int .i64 ((k + (1 + Pf.sizes s) : Nat) : Int) ∧ ∃ o' c' z', TOut σB io il σ' (lines ++ Pf.lines k (Pf.mk r f n s ms)) o' (k + (1 + Pf.sizes s)) c' z' ∧ Kept (TOwn io o) σ σ' ∧ ∀ j, o' = some (j, 0) → σ.next ≤ j) := by
      intro ts hT
      obtain ⟨a, rfl⟩ := hT.open
      have hO2 := hOi.push (.cells [.str (lineP (k + Pf.sizes s + 1) r f n (usesS k s ms))] true)
      obtain ⟨es, he, hG3, hK3⟩ := hO2.grown.kept (bytes := 16) (xs := [.str (lineP (k + Pf.sizes s + 1) r f n (usesS k s ms))]) (by omega) rfl rfl (decide_eq_true (by omega))
      have hio3 := hK3.keep io _ hOi.neo hO2.out
      have hil3 := hK3.keep il _ hOi.nel hO2.look
      have hio3l := hK3.wf.lt hio3
      simp -implicitDefEqProofs (maxDischargeDepth := 15) only [↓reduceIte, Yr, Ys, Yt, Wh, Wj, Wk, Wo, opA, Wv, Wx, Wy, Wz, Va, Za, Zb, Zd, Ze, Vb, Vc, Vd, Ve, AV.cells, Vg, partA, Zf, Zg, Zh, Zi, Zj, Zk, Zm, Zn, Zo, Zp, Zq, Zs, Zt, fillA, putL, allOne, Zu, Zv, AV.one, Zy, and_self, lenA, firstA, EndOk, resultA, oneOf, Zz, eq_self, c29_33, c29_34, hout, he, hio3]
      have hiol2 : io < σ'.next := hKi.wf.lt hout
      have hnx2 : (σ'.push (.cells [.str (lineP (k + Pf.sizes s + 1) r f n (usesS k s ms))] true)).next = σ'.next + 1 := rfl
      have hKs : Kept (fun j => j = io) ((σ'.push (.cells [.str (lineP (k + Pf.sizes s + 1) r f n (usesS k s ms))] true)).app es) (((σ'.push (.cells [.str (lineP (k + Pf.sizes s + 1) r f n (usesS k s ms))] true)).app es).set io (.cells [.slice (some ((σ'.push (.cells [.str (lineP (k + Pf.sizes s + 1) r f n (usesS k s ms))] true)).next, 0)) (k + Pf.sizes s + 1) none 1] true)) := (Kept.refl hK3.wf).set (Own := fun j => j = io) rfl hio3l _
      have hGs := hG3.keptBy hKs (fun j q q2 => by
        simp only [Option.some.injEq, Prod.mk.injEq, and_true] at q
        omega) (fun j q => by rw [q]; exact hO.geo)
      have hl1 : lines ++ Pf.liness k s ++ [lineP (k + Pf.sizes s + 1) r f n (usesS k s ms)] = lines ++ Pf.lines k (Pf.mk r f n s ms) := by rw [List.append_assoc]; rfl
      have hl2 : (lines ++ Pf.liness k s).map AV.str ++ [AV.str (lineP (k + Pf.sizes s + 1) r f n (usesS k s ms))] = (lines ++ Pf.lines k (Pf.mk r f n s ms)).map AV.str := by rw [← hl1]; simp
      have hk1 : k + (1 + Pf.sizes s) = k + Pf.sizes s + 1 := by omega
      rw [hk1]
      rw [hl2] at hGs
      refine ⟨rfl, _, _, _, ⟨Vk, by rw [Vl (Ne.symm hO.ne)]; exact hil3, hGs, hO.ne, hO.geo, hO.gel, fun q => ?_, fun q => ?_⟩, ⟨Nat.le_trans hK01.le (Nat.le_trans (Nat.le_succ _) (Nat.le_trans hK3.le hKs.le)), fun j b q e => hKs.keep j b (fun q2 => q (.inl q2)) (hK3.keep j b (fun q2 => ?_) (sub_push hKi.wf _ _ _ (hK01.keep j b q e))), hKs.wf⟩, fun j q => ?_⟩
      · simp only [Option.some.injEq, Prod.mk.injEq, and_true] at q; omega
      · have := hKi.wf.lt hlook
        simp only [Option.some.injEq, Prod.mk.injEq, and_true] at q; omega
      · rcases hoi j q2 with h | h
        · exact q (.inr h)
        · have := hW.lt e; omega
      · simp only [Option.some.injEq, Prod.mk.injEq, and_true] at q; omega
    rcases hcase with ⟨rfl, rfl, rfl, hn1, hn2⟩ | ⟨rfl, rfl, rfl, rfl⟩ | ⟨hrule, rfl, _, _, _⟩
    · simp -implicitDefEqProofs (maxDischargeDepth := 15) only [↓reduceIte, Yr, Ys, Yt, Yz, Wb, Wj, Wk, Wl, Wo, opA, Wv, Ww, Wx, Wy, Wz, Za, Zb, Vb, partA, Zf, Zg, Zh, Zi, Nat.reduceAdd, Nat.reduceLeDiff, Zk, Zl, Zm, Zn, Zo, Zp, Zq, Zr, binA, Yj, c29_17, c29_18, c29_19, c29_20, c29_21, c29_22, c29_23, c29_24, c29_25, c29_26, c29_27, c29_28, c29_29, c29_30, c29_31, c29_32, hbk]
      refine RunV.to (itoaN_ok (by omega) (hOi.grown.keep _ _ hpow)) ?_
      have q2 : 7 + (numS n).length < 9223372036854775808 := by omega
      have q3 : (numS n).length + 1 + 1 + 1 + 1 + 1 + 1 + 1 + 2 < 9223372036854775808 := by omega
      simp -implicitDefEqProofs (maxDischargeDepth := 15) only [↓reduceIte, Ys, Yt, Wb, Wc, Wu, opA, Wv, Ww, Wx, Wy, Wz, Za, Zb, Zc, Zd, Vb, partA, Zf, Zg, Zh, Zi, Nat.reduceAdd, Nat.reduceLeDiff, Zk, Zm, Zn, Zo, Zp, binA, true_and, againOk, eq_self, hbk, q2, q3]
      refine RunV.to htxt ?_
      have q4 : (numS n).length + 2 + 1 + 1 + 1 + 1 + 1 + 1 + 1 + f.txt.length < 9223372036854775808 := by omega
      have q5 : (numS (k + Pf.sizes [] + 1)).length + 2 + ((numS n).length + 2 + f.txt.length + 1 + 1 + 1 + 1 + 1 + 1 + 1) < 9223372036854775808 := by
        have := numS_len (k + Pf.sizes [] + 1); omega
      simp -implicitDefEqProofs (maxDischargeDepth := 15) only [↓reduceIte, Yr, Ys, Yt, Wo, Wr, Wu, opA, Wv, Wx, Wy, Wz, Za, Zb, Zc, Vb, Zf, Zg, Nat.reduceAdd, Zk, binA, q4, q5, List.length_append]
      refine hend _ ⟨rfl, rfl, rfl, ?_⟩
      simp [lineP]
    · simp -implicitDefEqProofs (maxDischargeDepth := 15) only [↓reduceIte, Yr, Ys, Yt, Yz, Wa, Wb, Wj, Wk, Wl, Wo, opA, Wv, Ww, Wx, Wy, Wz, Za, Zb, Vb, partA, Zf, Zg, Zh, Zi, Nat.reduceAdd, Nat.reduceLeDiff, Zk, Zl, Zm, Zn, Zo, Zp, Zq, binA, Yj, c29_17, c29_18, c29_19, c29_20, c29_21, c29_22, c29_23, c29_24, c29_25, c29_26, c29_27, c29_28, c29_29, c29_30, c29_31, c29_32, hbk, show (([63] : Str) == []) = false from rfl]
      refine RunV.to htxt ?_
      have q4 : f.txt.length + 15 < 9223372036854775808 := by omega
      have q5 : (numS (k + Pf.sizes [] + 1)).length + 2 + (f.txt.length + 15) < 9223372036854775808 := by
        have := numS_len (k + Pf.sizes [] + 1); omega
      simp -implicitDefEqProofs (maxDischargeDepth := 15) only [↓reduceIte, Yr, Ys, Yt, Wo, Wr, Wu, opA, Wv, Ww, Wx, Wy, Wz, Za, Zb, Vb, Zf, Zg, Nat.reduceAdd, Zk, binA, q4, q5, List.length_append]
      refine hend _ ⟨rfl, rfl, rfl, ?_⟩
      simp [lineP]
    · have r0 : (r == []) = false := by rcases hrule with rfl | rfl | rfl <;> rfl
      have r1 : (r == [63]) = false := by rcases hrule with rfl | rfl | rfl <;> rfl
      by_cases hs0 : s.length = 0
      · have hsn : s = [] := List.length_eq_zero_iff.1 hs0
        have hmn : ms = [] := List.length_eq_zero_iff.1 (by omega)
        subst hsn
        subst hmn
        simp -implicitDefEqProofs (maxDischargeDepth := 15) only [↓reduceIte, Yr, Ys, Yt, Yz, Wa, Wb, Wj, Wk, Wl, Wo, opA, Wv, Ww, Wx, Wy, Wz, Za, Zb, Vb, partA, Zf, Zg, Zh, Zi, Nat.reduceAdd, Nat.reduceLeDiff, Zk, Zl, Zm, Zn, Zo, Zp, Zq, binA, eq_self, c29_17, c29_18, c29_19, c29_20, c29_21, c29_22, c29_23, c29_24, c29_25, c29_26, c29_27, c29_28, c29_29, c29_30, c29_31, c29_32, hbk, r0, r1, show (((0 : Nat) : Int) == 0) = true from rfl]
        refine RunV.to htxt ?_
        have hrl : r.length ≤ 20 := by rcases hrule with rfl | rfl | rfl <;> decide
        have q4a : f.txt.length + 5 < 9223372036854775808 := by omega
        have q4 : f.txt.length + 5 + r.length < 9223372036854775808 := by omega
        have q5 : (numS (k + Pf.sizes [] + 1)).length + 2 + (f.txt.length + 5 + r.length) < 9223372036854775808 := by
          have := numS_len (k + Pf.sizes [] + 1); omega
        simp -implicitDefEqProofs (maxDischargeDepth := 15) only [↓reduceIte, Yr, Ys, Yt, Wc, Wo, Wr, Wu, opA, Wv, Ww, Wx, Wy, Wz, Za, Zb, Vb, partA, Zf, Zg, Nat.reduceAdd, Zk, Zq, binA, true_and, againOk, eq_self, q4a, q4, q5, List.length_append, hbk]
        refine hend _ ⟨rfl, rfl, rfl, ?_⟩
        have r2 : r ≠ [] := by rcases hrule with rfl | rfl | rfl <;> simp
        have r3 : r ≠ [63] := by rcases hrule with rfl | rfl | rfl <;> simp
        simp [lineP, usesS, r2, r3]
      · have d0 : (((s.length : Nat) : Int) == 0) = false := by rw [beq_eq_false_iff_ne]; omega
        simp -implicitDefEqProofs (maxDischargeDepth := 15) only [↓reduceIte, Yr, Ys, Yt, Wa, Wb, Wj, Wk, Wl, Wo, opA, Wv, Ww, Wx, Wy, Wz, Za, Zb, Vb, partA, Zf, Zg, Zh, Zi, Nat.reduceAdd, Nat.reduceLeDiff, Zk, Zl, Zm, Zn, Zo, Zp, Zq, binA, eq_self, c29_17, c29_18, c29_19, c29_20, c29_21, c29_22, c29_23, c29_24, c29_25, c29_26, c29_27, c29_28, c29_29, c29_30, c29_31, c29_32, hbk, r0, r1, d0]
        refine RunV.to htxt ?_
        have hrl : r.length ≤ 20 := by rcases hrule with rfl | rfl | rfl <;> decide
        have q4a : f.txt.length + 5 < 9223372036854775808 := by omega
        have q4 : f.txt.length + 5 + r.length < 9223372036854775808 := by omega
        have q4' : f.txt.length + 5 + r.length + 6 < 9223372036854775808 := by omega
        simp -implicitDefEqProofs (maxDischargeDepth := 15) only [↓reduceIte, Ys, Yt, Wb, Wc, Wu, opA, Wv, Ww, Wx, Wy, Wz, Za, Zb, Vb, partA, Zf, Zg, Zh, Zi, Nat.reduceAdd, Zk, Zq, binA, true_and, againOk, eq_self, q4a, q4, q4', List.length_append, hbk]
        have hub : (jn (usesS k s ms) sComma).length ≤ 408 := by
          have h := jn_bound (B := 100) sComma (usesS k s ms) (usesS_bound s ms k (fun m hm => (hms m hm).1))
          rw [usesS_len k s ms (by omega)] at h
          refine Nat.le_trans h ?_
          have : sComma.length = 2 := rfl
          rw [this]
          omega
        refine RunV.to (sjoin_ok hGu.strs sComma (by omega) (by omega)) ?_
        have q5 : f.txt.length + 5 + r.length + 6 + (jn (usesS k s ms) sComma).length < 9223372036854775808 := by omega
        have q6 : (numS (k + Pf.sizes s + 1)).length + 2 + (f.txt.length + 5 + r.length + 6 + (jn (usesS k s ms) sComma).length) < 9223372036854775808 := by
          omega
        simp -implicitDefEqProofs (maxDischargeDepth := 15) only [↓reduceIte, Yr, Ys, Yt, Wc, Wo, Wr, Wu, opA, Wv, Wx, Wy, Wz, Za, Zb, Vb, partA, Zf, Zg, Nat.reduceAdd, Zk, Zq, binA, true_and, againOk, eq_self, q5, q6, List.length_append, hbk]
        refine hend _ ⟨rfl, rfl, rfl, ?_⟩
        have r2 : r ≠ [] := by rcases hrule with rfl | rfl | rfl <;> simp
        have r3 : r ≠ [63] := by rcases hrule with rfl | rfl | rfl <;> simp
        have hul := usesS_len k s ms (by omega)
        cases hus : usesS k s ms with
        | nil => rw [hus] at hul; exact absurd hul.symm hs0
        | cons u ur => simp [lineP, r2, r3]
end Go.Am
namespace Go.Am
open Go.RowKit Go.Proofs Do
set_option maxRecDepth 100000
set_option maxHeartbeats 4000000 in
theorem lines_ok {p : Pf} (hfit : p.fit) (hsz : p.size ≤ 40) (σ : AState) (xs : List AV) (hD : DAtL σ.get p.dv xs) {pw : Bool} (hpow : σ.get 1 = some (.cells pow10L pw)) :
    RunF RR Tryz.prog n_describe_Proof [.agg xs] σ (fun u σ' => ∃ o c z, u = .tuple [.slice o p.size c z, .int .i64 0] ∧ Grown σ σ' o p.size c z 1 ((p.lines 0).map .str)) := by
  refine RunV.wf fun hW => ?_
  refine runF_intro hmx rf_describe_Proof ?_
  have hl8 : 8 ≤ xs.length := by rw [hD.length, Pf.dv_len]; omega
  have ht8 : xs.take 8 = xs := List.take_of_length_le (by rw [hD.length, Pf.dv_len]; omega)
  have hW1 := hW.push (.cells xs true)
  have hD1 := DAtL.sub (sub_push hW (.cells xs true)) _ _ hD
  simp -implicitDefEqProofs (maxDischargeDepth := 15) only [↓reduceIte, Yr, Ys, Yt, Wb, Wj, Wk, Wo, opA, Wv, Ww, Wx, Wy, Wz, Za, Zb, List.replicate, Zc, Zd, Ze, Vb, Vc, Vd, AV.cells, Vg, partA, Zf, Zg, Zh, Zi, Nat.reduceSub, Zk, Zm, i_describe_Proof, c92_0, c92_1, c92_2, c92_3, c92_4, c92_5, c92_6, c92_7, c92_8, c92_9, hl8, ht8]
  refine RunV.to (whole_ok hfit hsz _ _ hD1) ?_
  have h0 : (σ.push (.cells xs true)).get σ.next = some (.cells xs true) := Vg
  generalize hσ1 : σ.push (.cells xs true) = σ1 at *
  have hle1 : σ1.next = σ.next + 1 := by rw [← hσ1]; rfl
  have hsub1 : ∀ i b, σ.get i = some b → σ1.get i = some b := by rw [← hσ1]; exact sub_push hW _
  have hA := Vg (σ := σ1) (b := .cells [.slice none 0 (some 0) 0] true)
  have hWA := hW1.push (.cells [.slice none 0 (some 0) 0] true)
  have hil : (σ1.push (.cells [.slice none 0 (some 0) 0] true)).next = σ1.next + 1 := rfl
  have hB := Vg (σ := σ1.push (.cells [.slice none 0 (some 0) 0] true)) (b := .cells [tellA σ1.next (σ1.push (.cells [.slice none 0 (some 0) 0] true)).next] true)
  have hWB := hWA.push (.cells [tellA σ1.next (σ1.push (.cells [.slice none 0 (some 0) 0] true)).next] true)
  have h0B : ((σ1.push (.cells [.slice none 0 (some 0) 0] true)).push (.cells [tellA σ1.next (σ1.push (.cells [.slice none 0 (some 0) 0] true)).next] true)).get σ.next = some (.cells xs true) := sub_push hWA _ _ _ (sub_push hW1 _ _ _ h0)
  have hAB := sub_push hWA (.cells [tellA σ1.next (σ1.push (.cells [.slice none 0 (some 0) 0] true)).next] true) _ _ hA
  have hsubB : ∀ i b, σ.get i = some b → ((σ1.push (.cells [.slice none 0 (some 0) 0] true)).push (.cells [tellA σ1.next (σ1.push (.cells [.slice none 0 (some 0) 0] true)).next] true)).get i = some b := fun i b e => sub_push hWA _ _ _ (sub_push hW1 _ _ _ (hsub1 i b e))
  unfold tellA at hB hAB h0B hsubB hWB
  simp -implicitDefEqProofs (maxDischargeDepth := 15) only [↓reduceIte, Yr, Ys, Yt, Wa, Wb, Wg, Wj, Wk, Wl, Wo, Wu, opA, Wv, Wx, Wy, Wz, Va, Za, Zb, Zd, Ze, Vb, Vc, Vd, Ve, AV.cells, Vg, Vn, partA, Zf, Zg, Zh, Zi, Zj, Zk, Zm, Zn, Zp, Zq, Zs, putL, allOne, Zu, Zv, AV.one, Zy, and_self, Yb, eq_self, hl8, ht8, h0B]
  have hnB : ((σ1.push (.cells [.slice none 0 (some 0) 0] true)).push (.cells [.func (.func n_describe_ProofS1) [] [.ptr (some ((σ1.push (.cells [.slice none 0 (some 0) 0] true)).next, 0)), .ptr (some (σ1.next, 0))]] true)).next = σ1.next + 2 := rfl
  generalize ((σ1.push (.cells [.slice none 0 (some 0) 0] true)).push (.cells [.func (.func n_describe_ProofS1) [] [.ptr (some ((σ1.push (.cells [.slice none 0 (some 0) 0] true)).next, 0)), .ptr (some (σ1.next, 0))]] true)) = σ3 at *
  generalize (σ1.push (.cells [.slice none 0 (some 0) 0] true)).next = il at *
  have hT : TOut σ σ1.next il σ3 [] none 0 (some 0) 0 := ⟨hAB, hB, Grown.nil hW hWB hsubB (by omega) _ _ _, by omega, by omega, by omega, by simp, by simp⟩
  refine (tell_ok hpow p.size p (Nat.le_refl _) hfit σ3 [] xs none 0 (some 0) 0 hT (by omega) hD).mono ?_
  rintro u σ4 ⟨rfl, o, c, z, hT4, hK4, ho4⟩
  have hout := hT4.out
  have houtl := hT4.grown.wf.lt hout
  simp -implicitDefEqProofs (maxDischargeDepth := 15) only [Yr, Ys, Yt, Wh, Wj, Wk, Wo, Wu, opA, Wv, Ww, Wx, Wy, Wz, Za, Zb, Vb, partA, Zk, Zq, EndOk, resultA, oneOf, Zz, hout, Zk]
  have hG := hT4.grown
  rw [List.nil_append] at hG
  exact ⟨_, _, _, rfl, by simpa using hG⟩
end Go.Am
namespace Go.Am
open Go.RowKit Go.Proofs Do
set_option maxRecDepth 100000
theorem beq_same {α : Type} {a b : Str} {c d : α} (h : a = b ↔ c = d) : (a == b) = same c d := by
  by_cases q : a = b
  · rw [same_t (h.1 q), q]; exact beq_self_eq_true b
  · rw [same_f (fun e => q (h.2 e))]; exact beq_eq_false_iff_ne.2 q
theorem same_iff {α β : Type} {a b : β} {c d : α} (h : a = b ↔ c = d) : same a b = same c d := by
  by_cases q : a = b
  · rw [same_t (h.1 q), same_t q]
  · rw [same_f (fun e => q (h.2 e)), same_f q]
theorem two_sets {σ : AState} {b b' c d : ABlk} : (((σ.push b).push b').set σ.next c).set (σ.push b).next d = (σ.push c).push d := by
  unfold AState.push AState.set
  congr 1
  funext k
  by_cases h1 : k = σ.next + 1
  · simp [h1]
  · by_cases h2 : k = σ.next
    · simp [h2]
    · simp [h1, h2]
def FitF (f : F) : Prop := f.right = true ∧ f.sane ∧ f.txt.length ≤ 16000 ∧ f.nodes ≤ 400 ∧ f.shape = true ∧ f.tiny
theorem fit_built (l : List Nat) : FitF (built l) := by
  have hr := built_right l
  have ht := built_tiny l
  have hs := right_sizes hr
  have htx := F.txt_len _ ht
  have hr' := hr
  simp only [F.right, Bool.and_eq_true, decide_eq_true_eq] at hr'
  exact ⟨hr, sane_of_tiny _ ht (by omega), by omega, hs.1, hr'.2, ht⟩
theorem f_cells {g : Mem} {f : F} {xs : List AV} (h : DAtL g f.dv xs) : ∃ (fo : Nat) (fn : Str) (o1 : Option (Nat × Nat)) (n1 : Nat) (c1 : Option Nat) (z1 : Nat) (o2 : Option (Nat × Nat)) (n2 : Nat) (c2 : Option Nat) (z2 : Nat), xs = [.int .u8 fo, .str fn, .slice o1 n1 c1 z1, .slice o2 n2 c2 z2] := by
  obtain ⟨op, nm, ar, l⟩ := f
  obtain ⟨o, c, z, o', c', z', rfl, _⟩ := F.cells h
  exact ⟨_, _, _, _, _, _, _, _, _, _, rfl⟩
theorem p_cells {g : Mem} {p : Pf} {xs : List AV} (h : DAtL g p.dv xs) : ∃ (r : Str) (fo : Nat) (fn : Str) (o1 : Option (Nat × Nat)) (n1 : Nat) (c1 : Option Nat) (z1 : Nat) (o2 : Option (Nat × Nat)) (n2 : Nat) (c2 : Option Nat) (z2 : Nat) (k : Int) (o3 : Option (Nat × Nat)) (n3 : Nat) (c3 : Option Nat) (z3 : Nat) (o4 : Option (Nat × Nat)) (n4 : Nat) (c4 : Option Nat) (z4 : Nat),
    xs = [.str r, .int .u8 fo, .str fn, .slice o1 n1 c1 z1, .slice o2 n2 c2 z2, .int .i64 k, .slice o3 n3 c3 z3, .slice o4 n4 c4 z4] := by
  obtain ⟨r, f, k, s, ms⟩ := p
  obtain ⟨fo, fn, fa, fl⟩ := f
  obtain ⟨o1, c1, z1, o2, c2, z2, o3, c3, z3, o4, c4, z4, rfl, _⟩ := Pf.cells h
  exact ⟨_, _, _, _, _, _, _, _, _, _, _, _, _, _, _, _, _, _, _, _, rfl⟩
structure ASt (σ : AState) (j7 j8 j13 j14 : Nat) (f g : F) (l2 r2 : List F) : Prop where
  wf : σ.Wf
  f7 : ∃ xs, σ.get j7 = some (.cells xs true) ∧ DAtL σ.get f.dv xs
  g8 : ∃ ys, σ.get j8 = some (.cells ys true) ∧ DAtL σ.get g.dv ys
  one : ∃ (o1 : Option (Nat × Nat)) (c1 : Option Nat) (z1 : Nat) (o2 : Option (Nat × Nat)) (c2 : Option Nat) (z2 : Nat), σ.get j13 = some (.cells [.slice o1 1 c1 z1, .slice o2 1 c2 z2] true) ∧ Fs σ.get o1 1 z1 [f] ∧ Fs σ.get o2 1 z2 [g]
  two : ∃ (o1 : Option (Nat × Nat)) (c1 : Option Nat) (z1 : Nat) (o2 : Option (Nat × Nat)) (c2 : Option Nat) (z2 : Nat), σ.get j14 = some (.cells [.slice o1 l2.length c1 z1, .slice o2 r2.length c2 z2] true) ∧ Fs σ.get o1 l2.length z1 l2 ∧ Fs σ.get o2 r2.length z2 r2 ∧ (l2 = [] → o1 = none) ∧ (r2 = [] → o2 = none)
theorem ASt.grow {σ σ' : AState} {j7 j8 j13 j14 : Nat} {f g : F} {l2 r2 : List F} (h : ASt σ j7 j8 j13 j14 f g l2 r2) (k : Grow σ σ') : ASt σ' j7 j8 j13 j14 f g l2 r2 := by
  obtain ⟨_, ⟨xs, h1, h2⟩, ⟨ys, h3, h4⟩, ⟨o1, c1, z1, o2, c2, z2, h5, h6, h7⟩, ⟨o3, c3, z3, o4, c4, z4, h8, h9, h10, h11⟩⟩ := h
  exact ⟨k.wf, ⟨xs, k.sub _ _ h1, DAtL.sub k.sub _ _ h2⟩, ⟨ys, k.sub _ _ h3, DAtL.sub k.sub _ _ h4⟩, ⟨o1, c1, z1, o2, c2, z2, k.sub _ _ h5, h6.sub k.sub, h7.sub k.sub⟩, ⟨o3, c3, z3, o4, c4, z4, k.sub _ _ h8, h9.sub k.sub, h10.sub k.sub, h11⟩⟩
structure CLv (ts : List AV) (v0 v1 v7 v8 v9 v10 v11 v12 v13 v14 v15 v16 v17 v18 : AV) : Prop where
  len : ts.length = 119
  t0 : ts.getD 0 U = v0
  t1 : ts.getD 1 U = v1
  t7 : ts.getD 7 U = v7
  t8 : ts.getD 8 U = v8
  t9 : ts.getD 9 U = v9
  t10 : ts.getD 10 U = v10
  t11 : ts.getD 11 U = v11
  t12 : ts.getD 12 U = v12
  t13 : ts.getD 13 U = v13
  t14 : ts.getD 14 U = v14
  t15 : ts.getD 15 U = v15
  t16 : ts.getD 16 U = v16
  t17 : ts.getD 17 U = v17
  t18 : ts.getD 18 U = v18
theorem CLv.open {ts : List AV} {v0 v1 v7 v8 v9 v10 v11 v12 v13 v14 v15 v16 v17 v18 : AV} (h : CLv ts v0 v1 v7 v8 v9 v10 v11 v12 v13 v14 v15 v16 v17 v18) : ∃ a : Nat → AV, ts = [v0, v1, a 2, a 3, a 4, a 5, a 6, v7, v8, v9, v10, v11, v12, v13, v14, v15, v16, v17, v18, a 19, a 20, a 21, a 22, a 23, a 24, a 25, a 26, a 27, a 28, a 29, a 30, a 31, a 32, a 33, a 34, a 35, a 36, a 37, a 38, a 39, a 40, a 41, a 42, a 43, a 44, a 45, a 46, a 47, a 48, a 49, a 50, a 51, a 52, a 53, a 54, a 55, a 56, a 57, a 58, a 59, a 60, a 61, a 62, a 63, a 64, a 65, a 66, a 67, a 68, a 69, a 70, a 71, a 72, a 73, a 74, a 75, a 76, a 77, a 78, a 79, a 80, a 81, a 82, a 83, a 84, a 85, a 86, a 87, a 88, a 89, a 90, a 91, a 92, a 93, a 94, a 95, a 96, a 97, a 98, a 99, a 100, a 101, a 102, a 103, a 104, a 105, a 106, a 107, a 108, a 109, a 110, a 111, a 112, a 113, a 114, a 115, a 116, a 117, a 118] := by
  have h1 := list_range h.len
  refine ⟨fun i => ts.getD i U, ?_⟩
  rw [← h.t0, ← h.t1, ← h.t7, ← h.t8, ← h.t9, ← h.t10, ← h.t11, ← h.t12, ← h.t13, ← h.t14, ← h.t15, ← h.t16, ← h.t17, ← h.t18]
  exact h1
structure DLv (ts : List AV) (v7 v8 v9 v10 v11 v12 v13 v14 v15 v16 v17 v18 v19 v20 v21 v22 v23 v24 : AV) : Prop where
  len : ts.length = 119
  t7 : ts.getD 7 U = v7
  t8 : ts.getD 8 U = v8
  t9 : ts.getD 9 U = v9
  t10 : ts.getD 10 U = v10
  t11 : ts.getD 11 U = v11
  t12 : ts.getD 12 U = v12
  t13 : ts.getD 13 U = v13
  t14 : ts.getD 14 U = v14
  t15 : ts.getD 15 U = v15
  t16 : ts.getD 16 U = v16
  t17 : ts.getD 17 U = v17
  t18 : ts.getD 18 U = v18
  t19 : ts.getD 19 U = v19
  t20 : ts.getD 20 U = v20
  t21 : ts.getD 21 U = v21
  t22 : ts.getD 22 U = v22
  t23 : ts.getD 23 U = v23
  t24 : ts.getD 24 U = v24
theorem DLv.open {ts : List AV} {v7 v8 v9 v10 v11 v12 v13 v14 v15 v16 v17 v18 v19 v20 v21 v22 v23 v24 : AV} (h : DLv ts v7 v8 v9 v10 v11 v12 v13 v14 v15 v16 v17 v18 v19 v20 v21 v22 v23 v24) : ∃ a : Nat → AV, ts = [a 0, a 1, a 2, a 3, a 4, a 5, a 6, v7, v8, v9, v10, v11, v12, v13, v14, v15, v16, v17, v18, v19, v20, v21, v22, v23, v24, a 25, a 26, a 27, a 28, a 29, a 30, a 31, a 32, a 33, a 34, a 35, a 36, a 37, a 38, a 39, a 40, a 41, a 42, a 43, a 44, a 45, a 46, a 47, a 48, a 49, a 50, a 51, a 52, a 53, a 54, a 55, a 56, a 57, a 58, a 59, a 60, a 61, a 62, a 63, a 64, a 65, a 66, a 67, a 68, a 69, a 70, a 71, a 72, a 73, a 74, a 75, a 76, a 77, a 78, a 79, a 80, a 81, a 82, a 83, a 84, a 85, a 86, a 87, a 88, a 89, a 90, a 91, a 92, a 93, a 94, a 95, a 96, a 97, a 98, a 99, a 100, a 101, a 102, a 103, a 104, a 105, a 106, a 107, a 108, a 109, a 110, a 111, a 112, a 113, a 114, a 115, a 116, a 117, a 118] := by
  have h1 := list_range h.len
  refine ⟨fun i => ts.getD i U, ?_⟩
  rw [← h.t7, ← h.t8, ← h.t9, ← h.t10, ← h.t11, ← h.t12, ← h.t13, ← h.t14, ← h.t15, ← h.t16, ← h.t17, ← h.t18, ← h.t19, ← h.t20, ← h.t21, ← h.t22, ← h.t23, ← h.t24]
  exact h1
set_option maxHeartbeats 4000000 in
theorem apart_d {σ : AState} {j7 j8 j13 j14 j19 j20 : Nat} {f g : F} {l2 r2 : List F} {p q : Pf} (hS : ASt σ j7 j8 j13 j14 f g l2 r2) (hf : FitF f) (hg : FitF g) (heq : claimS [f] [g] = claimS l2 r2 ↔ ([f], [g]) = (l2, r2)) (hfit : p.fit) (hfit' : q.fit) (hsz : p.size ≤ 40)
    {xs ys : List AV} (h19 : σ.get j19 = some (.cells xs true)) (hp : DAtL σ.get p.dv xs) (h20 : σ.get j20 = some (.cells ys true)) (hq : DAtL σ.get q.dv ys) {o5 o6 : Option (Nat × Nat)} {n5 n6 z5 z6 : Nat} {c5 c6 : Option Nat} (h5 : Strs σ.get o5 n5 z5 (p.lines 0)) (h6 : Strs σ.get o6 n6 z6 (q.lines 0)) (hn5 : n5 ≤ 40) {e0 : AV} (he : e0 = .int .i64 0) {ts : List AV}
    (hL : DLv ts (.ptr (some (j7, 0))) (.ptr (some (j8, 0))) (.str f.txt) e0 (.str g.txt) e0 (.ptr (some (j13, 0))) (.ptr (some (j14, 0))) (.str (claimS [f] [g])) e0 (.str (claimS l2 r2)) e0 (.ptr (some (j19, 0))) (.ptr (some (j20, 0))) (.slice o5 n5 c5 z5) e0 (.slice o6 n6 c6 z6) e0) :
    wpC RR Tryz.prog c80_22 ts σ (EndOk [(6, none)] fun u _ => u = .bool true) := by
  obtain ⟨a, rfl⟩ := hL.open
  obtain ⟨_, ⟨fx, h7, hfx⟩, ⟨gx, h8, hgx⟩, ⟨q1, d1, y1, q2, d2, y2, h13, hF1, hF2⟩, ⟨q3, d3, y3, q4, d4, y4, h14, hF3, hF4, _, _⟩⟩ := hS
  obtain ⟨r, fo, fn, o1, n1, c1, z1, o2, n2, c2, z2, k, o3, n3, c3, z3, o4, n4, c4, z4, rfl⟩ := p_cells hp
  obtain ⟨r', fo', fn', o1', n1', c1', z1', o2', n2', c2', z2', k', o3', n3', c3', z3', o4', n4', c4', z4', rfl⟩ := p_cells hq
  obtain ⟨ho, hn, m1, w1, e1, x1, m2, w2, e2, x2, rfl⟩ := f_cells hfx
  obtain ⟨ho', hn', m3, w3, e3, x3, m4, w4, e4, x4, rfl⟩ := f_cells hgx
  simp -implicitDefEqProofs (maxDischargeDepth := 15) only [↓reduceIte, Yr, Ys, Yt, Wa, Wb, Wg, Wj, Wk, Wl, Wo, opA, Wv, Ww, Wx, Wy, Wz, Za, Zb, Vb, partA, Zf, Zg, Zh, Zi, Nat.reduceAdd, Zj, Zk, Zm, Zo, Zt, binA, Yk, eq_self, c80_15, c80_16, c80_17, c80_18, c80_19, c80_20, c80_21, c80_22, c80_22, he, h7, h8, show wrapF .i64 ((0 : Int) + 0) = 0 from by decide]
  refine RunV.to (synSame_ok f g (by have := hf.2.2.2.1; omega) _ _ _ hfx hgx) ?_
  have b1 : (f.txt == g.txt) = same f g := beq_same (txt_same hf.2.2.2.2.1 hg.2.2.2.2.1 hf.2.2.2.2.2 hg.2.2.2.2.2)
  have b2 : (claimS [f] [g] == claimS l2 r2) = same ([f], [g]) (l2, r2) := beq_same heq
  simp -implicitDefEqProofs (maxDischargeDepth := 15) only [↓reduceIte, Ys, Yt, Yv, Wb, Wd, We, Wu, opA, Wv, Ww, Wx, Wy, Wz, Za, Zb, Vb, partA, Zf, Zg, Zh, Zi, Nat.reduceAdd, Zj, Zk, Zm, Zo, Zt, binA, eqA, kEq, Yd, Vu, Vv, Yj, b1, b2, h13, h14]
  refine RunV.to (sameSeq_ok (l := [f]) (r := [g]) (l' := l2) (r' := r2) hF1 hF2 hF3 hF4 (by have := hf.2.2.2.1; simp only [F.nodess]; omega) (by have := hg.2.2.2.1; simp only [F.nodess]; omega)) ?_
  simp -implicitDefEqProofs (maxDischargeDepth := 15) only [↓reduceIte, Ys, Yt, Yv, Wb, Wd, We, Wu, opA, Wv, Ww, Wx, Wy, Wz, Za, Zb, Vb, partA, Zf, Zg, Zh, Zi, Nat.reduceAdd, Zj, Zk, Zm, Zo, Zt, eqA, kEq, Yd, Vu, Vv, Yj, eq_self, h19, h20]
  refine RunV.to (sameTexts_ok h5 h6 (by omega)) ?_
  rw [same_iff (lines_same hfit hfit' (by omega))]
  simp -implicitDefEqProofs (maxDischargeDepth := 15) only [↓reduceIte, Yv, Yx, Wb, Wc, We, Wf, Wu, opA, Wv, Ww, Wx, Wy, Wz, Za, Zb, partA, Zf, Zg, Zh, Zi, Nat.reduceAdd, Zj, Zk, Zm, Zo, Zt, true_and, againOk, Vu, Vv, Yj, eq_self, h19, h20]
  refine RunV.to ((same_proofs p.size (by omega)).1 p q (Nat.le_refl _) hfit _ _ _ hp hq) ?_
  simp -implicitDefEqProofs (maxDischargeDepth := 15) only [↓reduceIte, Yr, Ys, Yt, Yv, Wd, Wh, Wo, Wu, opA, Wv, Wx, Wy, Wz, Za, Zb, Vb, eqA, kEq, EndOk, resultA, oneOf, Zz, Yd, Vu, Vv, Yj, eq_self]
set_option maxHeartbeats 4000000 in
theorem apart_c {σ : AState} {j7 j8 j13 j14 : Nat} {f g : F} {l2 r2 : List F} (hS : ASt σ j7 j8 j13 j14 f g l2 r2) (hf : FitF f) (hg : FitF g) {o o' : Option (Nat × Nat)} {n n' z z' : Nat} {l l' : List Nat} {pw : Bool} (hB : Bys σ.get o n z l) (hx : ∀ x ∈ l, x < 256) (hB' : Bys σ.get o' n' z' l') (hx' : ∀ x ∈ l', x < 256)
    (hpow : σ.get 1 = some (.cells pow10L pw)) (heq : claimS [f] [g] = claimS l2 r2 ↔ ([f], [g]) = (l2, r2)) {e0 : AV} (he0 : e0 = .int .i64 0) {ts : List AV}
    (hL : CLv ts (.slice o n none z) (.slice o' n' none z') (.ptr (some (j7, 0))) (.ptr (some (j8, 0))) (.str f.txt) e0 (.str g.txt) e0 (.ptr (some (j13, 0))) (.ptr (some (j14, 0))) (.str (claimS [f] [g])) e0 (.str (claimS l2 r2)) e0) :
    wpC RR Tryz.prog c80_25 ts σ (EndOk [(6, none)] fun u _ => u = .bool true) := by
  obtain ⟨a, rfl⟩ := hL.open
  simp -implicitDefEqProofs (maxDischargeDepth := 15) only [Ys, Yt, Wb, Wj, Wk, opA, Wv, Ww, Wx, Wy, Wz, Za, Zb, Vb, Zh, Zi, c80_11, c80_12, c80_13, c80_14, c80_23, c80_24, c80_25]
  refine (proved_ok hB hx).mono ?_
  rintro u σ1 ⟨xs, rfl, hD, hG1⟩
  simp -implicitDefEqProofs (maxDischargeDepth := 15) only [Ys, Yt, Wb, Wu, opA, Wv, Ww, Wx, Wy, Wz, Za, Zb, Vb, Zh, Zi]
  refine (proved_ok (hB'.sub hG1.sub) hx').mono ?_
  rintro u σ2 ⟨ys, rfl, hD', hG2⟩
  obtain ⟨hfit, hsz⟩ := proved_fit hx
  obtain ⟨hfit', hsz'⟩ := proved_fit hx'
  generalize proved l = p at *
  generalize proved l' = q at *
  have hD1 : DAtL σ2.get p.dv xs := DAtL.sub hG2.sub _ _ (DAtL.sub (fun j b q => (newer_some q).2) _ _ hD)
  have hD2 : DAtL σ2.get q.dv ys := DAtL.sub (fun j b q => (newer_some q).2) _ _ hD'
  obtain ⟨r, fo, fn, o1, n1, c1, z1, o2, n2, c2, z2, k, o3, n3, c3, z3, o4, n4, c4, z4, rfl⟩ := p_cells hD1
  obtain ⟨r', fo', fn', o1', n1', c1', z1', o2', n2', c2', z2', k', o3', n3', c3', z3', o4', n4', c4', z4', rfl⟩ := p_cells hD2
  have hs1 := sub_push hG2.wf (.cells [.str r, .int .u8 fo, .str fn, .slice o1 n1 c1 z1, .slice o2 n2 c2 z2, .int .i64 k, .slice o3 n3 c3 z3, .slice o4 n4 c4 z4] true)
  have hW1 := hG2.wf.push (.cells [.str r, .int .u8 fo, .str fn, .slice o1 n1 c1 z1, .slice o2 n2 c2 z2, .int .i64 k, .slice o3 n3 c3 z3, .slice o4 n4 c4 z4] true)
  have hs2 := sub_push hW1 (.cells [.str r', .int .u8 fo', .str fn', .slice o1' n1' c1' z1', .slice o2' n2' c2' z2', .int .i64 k', .slice o3' n3' c3' z3', .slice o4' n4' c4' z4'] true)
  have hb19 := hs2 _ _ (Vg (σ := σ2) (b := .cells [.str r, .int .u8 fo, .str fn, .slice o1 n1 c1 z1, .slice o2 n2 c2 z2, .int .i64 k, .slice o3 n3 c3 z3, .slice o4 n4 c4 z4] true))
  have hb20 := Vg (σ := σ2.push (.cells [.str r, .int .u8 fo, .str fn, .slice o1 n1 c1 z1, .slice o2 n2 c2 z2, .int .i64 k, .slice o3 n3 c3 z3, .slice o4 n4 c4 z4] true)) (b := .cells [.str r', .int .u8 fo', .str fn', .slice o1' n1' c1' z1', .slice o2' n2' c2' z2', .int .i64 k', .slice o3' n3' c3' z3', .slice o4' n4' c4' z4'] true)
  rw [AState.push_next] at hb20
  have hp2 := hs2 _ _ (hs1 _ _ (hG2.sub _ _ (hG1.sub _ _ hpow)))
  have hDp := DAtL.sub hs2 _ _ (DAtL.sub hs1 _ _ hD1)
  have hDq := DAtL.sub hs2 _ _ (DAtL.sub hs1 _ _ hD2)
  simp -implicitDefEqProofs (maxDischargeDepth := 15) only [↓reduceIte, Yr, Ys, Yt, Wb, Wj, Wk, Wo, Wu, opA, Wv, Ww, Wx, Wy, Wz, Va, Za, Zb, Zd, Ze, Vb, Vc, Vd, Ve, AV.cells, Vg, Vh, Vi, Vk, Vl, Vq, Vr, partA, Zf, Zg, Zh, Zi, Nat.reduceAdd, Zj, Zk, Zm, Zn, Zo, Zp, Zs, Zt, putL, allOne, Zu, Zv, AV.one, Zy, and_self, eq_self, ne_eq, Yo]
  rw [two_sets]
  simp only [AState.push_next]
  refine (lines_ok hfit (by omega) _ _ hDp hp2).mono ?_
  rintro u σ3 ⟨o5, c5, z5, rfl, hG3⟩
  have hb19a := hG3.keep _ _ hb19
  have hb20a := hG3.keep _ _ hb20
  simp -implicitDefEqProofs (maxDischargeDepth := 15) only [↓reduceIte, Yr, Ys, Yt, Wb, Wj, Wk, Wo, Wu, opA, Wv, Ww, Wx, Wy, Wz, Za, Zb, Vb, partA, Zf, Zg, Zh, Zi, Nat.reduceAdd, Zj, Zk, Zm, Zo, Zq, Zr, Zt, hb20a]
  refine (lines_ok hfit' (by omega) _ _ (DAtL.sub hG3.keep _ _ hDq) (hG3.keep _ _ hp2)).mono ?_
  rintro u σ4 ⟨o6, c6, z6, rfl, hG4⟩
  have hb19b := hG4.keep _ _ hb19a
  have hb20b := hG4.keep _ _ hb20a
  have hn3 := hG3.le
  simp only [AState.push_next] at hn3
  have hn4 := hG4.le
  have hn1 := hG1.le
  have hn2 := hG2.le
  have k4 : Grow σ σ4 := ⟨by omega, fun i b e => hG4.keep _ _ (hG3.keep _ _ (hs2 _ _ (hs1 _ _ (hG2.sub _ _ (hG1.sub _ _ e))))), hG4.wf⟩
  simp -implicitDefEqProofs (maxDischargeDepth := 15) only [Yr, Ys, Yt, Wo, Wu, opA, Wv, Wx, Wy, Wz, Za, Zb, Vb, Zq, Zr]
  exact apart_d (hS.grow k4) hf hg heq hfit hfit' (by omega) hb19b (DAtL.sub hG4.keep _ _ (DAtL.sub hG3.keep _ _ hDp)) hb20b (DAtL.sub hG4.keep _ _ (DAtL.sub hG3.keep _ _ hDq)) (hG3.strs.sub hG4.keep) hG4.strs (by omega) he0 ⟨rfl, rfl, rfl, rfl, rfl, rfl, rfl, rfl, rfl, rfl, rfl, rfl, rfl, rfl, rfl, rfl, he0.symm, rfl, he0.symm⟩
end Go.Am
