/-
  A PART of the proof: ApW27, ApW52, ApW28, ApW29, ApW30, ApW31, ApW32, ApW53, ApW36, ApW42, ApW43, ApW44, ApW45, ApW37, ApW46, ApW47, ApW48, ApW49, ApW38, ApW50, ApW51, ApW41, ApW39.
-/
import Derived.Test.YtndfemigjgpdlaaGreatDoorT06
import Derived.Test.YtndfemigjgpdlaaGreatDoorT05
set_option linter.unusedSimpArgs false
set_option linter.unusedVariables false
namespace Go.Am
open Go.RowKit Go.Proofs Do
set_option maxRecDepth 100000
theorem Grown.keptBy {Own : Nat → Prop} {σ0 σ σ' : AState} {o : Option (Nat × Nat)} {n : Nat} {c : Option Nat} {z sz : Nat} {cs : List AV} (h : Grown σ0 σ o n c z sz cs) (k : Kept Own σ σ') (h1 : ∀ i, o = some (i, 0) → ¬ Own i) (h0 : ∀ j, Own j → σ0.next ≤ j) : Grown σ0 σ' o n c z sz cs :=
  ⟨h.wf0, k.wf, fun i b e => k.keep i b (fun q => by have := h.wf0.lt e; have := h0 i q; omega) (h.keep i b e), Nat.le_trans h.le k.le, h.len, h.at'.imp_right fun ⟨a, b, i, c, d, e⟩ => ⟨a, b, i, c, d, k.keep i _ (h1 i c) e⟩⟩
theorem Kept.set {Own : Nat → Prop} {σ σ' : AState} (h : Kept Own σ σ') {j : Nat} (hj : Own j) (hl : j < σ'.next) (b : ABlk) : Kept Own σ (σ'.set j b) :=
  ⟨h.le, fun i x n e => by rw [Vl (by rintro rfl; exact n hj)]; exact h.keep i x n e, h.wf.set hl b⟩
theorem Kept.mono {Own Own' : Nat → Prop} {σ σ' : AState} (h : Kept Own σ σ') (k : ∀ j, Own j → Own' j) : Kept Own' σ σ' := ⟨h.le, fun i b n e => h.keep i b (fun q => n (k i q)) e, h.wf⟩
theorem Kept.ofGrow {Own : Nat → Prop} {σ σ' : AState} (h : Grow σ σ') : Kept Own σ σ' := ⟨h.le, fun i b _ e => h.sub i b e, h.wf⟩
theorem Grown.at_lt {σ0 σ : AState} {o : Option (Nat × Nat)} {n : Nat} {c : Option Nat} {z sz : Nat} {cs : List AV} (h : Grown σ0 σ o n c z sz cs) {i : Nat} (hi : o = some (i, 0)) : σ0.next ≤ i ∧ i < σ.next := by
  rcases h.at' with ⟨q, _⟩ | ⟨_, _, i', q, hq, hg⟩
  · rw [q] at hi; cases hi
  · rw [q] at hi; cases hi; exact ⟨hq, h.wf.lt hg⟩
def inner (σb σ : AState) (ip : Nat) (so mo : Option (Nat × Nat)) : Mem := fun j => if j < σb.next ∨ j = ip ∨ so = some (j, 0) ∨ mo = some (j, 0) then none else σ.get j
theorem inner_some {σb σ : AState} {ip : Nat} {so mo : Option (Nat × Nat)} {j : Nat} {b : ABlk} (h : inner σb σ ip so mo j = some b) : σb.next ≤ j ∧ j ≠ ip ∧ so ≠ some (j, 0) ∧ mo ≠ some (j, 0) ∧ σ.get j = some b := by
  unfold inner at h
  split at h
  · cases h
  · rename_i q
    simp only [not_or] at q
    exact ⟨by omega, q.2.1, q.2.2.1, q.2.2.2, h⟩
theorem inner_mk {σb σ : AState} {ip : Nat} {so mo : Option (Nat × Nat)} {j : Nat} {b : ABlk} (h1 : σb.next ≤ j) (h2 : j ≠ ip) (h3 : so ≠ some (j, 0)) (h4 : mo ≠ some (j, 0)) (h : σ.get j = some b) : inner σb σ ip so mo j = some b := by
  unfold inner
  rw [if_neg (by simp only [not_or]; exact ⟨by omega, h2, h3, h4⟩)]; exact h
structure PIn (σb σ : AState) (ip : Nat) (r : Str) (fs : List AV) (so : Option (Nat × Nat)) (k : Nat) (sc : Option Nat) (sz : Nat) (cs1 : List AV) (mo : Option (Nat × Nat)) (mc : Option Nat) (mz : Nat) (cs2 : List AV) (ms : List (List Nat)) : Prop where
  grow : Grow σb σ
  ipl : σb.next ≤ ip
  at' : σ.get ip = some (.cells (.str r :: (fs ++ [.int .i64 0, .slice so k sc sz, .slice mo k mc mz])) true)
  subs : Grown σb σ so k sc sz 8 cs1
  marks : Grown σb σ mo k mc mz 1 cs2
  mdat : DAtL (inner σb σ ip so mo) (ms.map mdv) cs2
  n1 : so ≠ some (ip, 0)
  n2 : mo ≠ some (ip, 0)
  n3 : ∀ i, so = some (i, 0) → mo ≠ some (i, 0)
theorem pdvs_slice (s : List Pf) {a k : Nat} {p : Pf} (h : s[a + k]? = some p) : Pf.dvs ((s.drop a).take (k + 1)) = Pf.dvs ((s.drop a).take k) ++ p.dv := by
  rw [List.take_add_one, List.getElem?_drop, h]
  simp [pdvs_append, pdvs_one]
set_option maxHeartbeats 4000000 in
theorem psub_ok {x many : Nat} (hx : x < 256) (hm5 : many < 5) {e : Nat} {σ1 σb σ : AState} {so : Option (Nat × Nat)} {sn : Nat} {sc : Option Nat} {sz : Nat} {s : List Pf} {cs : List AV} (hS : Stq e σ1 σb so sn sc sz s cs) (hsn : sn ≤ 30) (hle : many ≤ sn)
    {ip : Nat} {r : Str} {fo : Nat} {fn : Str} {o1 : Option (Nat × Nat)} {n1 : Nat} {c1 : Option Nat} {z1 : Nat} {o2 : Option (Nat × Nat)} {n2 : Nat} {c2 : Option Nat} {z2 : Nat}
    (hP : PIn σb σ ip r [.int .u8 fo, .str fn, .slice o1 n1 c1 z1, .slice o2 n2 c2 z2] none 0 (some 0) 0 [] none (some 0) 0 [] [])
    {v0 v2 v4 v7 v11 v12 : AV} {ts : List AV} (hL : PLive ts v0 v2 (.slice so sn sc sz) v4 (.int .i64 sn) (.int .u8 x) v7 (.int .i64 many) (.ptr (some (ip, 0))) (.int .i64 0) v11 v12) {Q : Ex → List AV → AState → Prop}
    (hQ : ∀ (ts : List AV) (σ' : AState) (so' : Option (Nat × Nat)) (sc' : Option Nat) (sz' : Nat) (cs1 : List AV) (mo : Option (Nat × Nat)) (mc : Option Nat) (mz : Nat) (cs2 : List AV) (v10 v11 v12 : AV), PLive ts v0 v2 (.slice so sn sc sz) v4 (.int .i64 sn) (.int .u8 x) v7 (.int .i64 many) (.ptr (some (ip, 0))) v10 v11 v12 →
      PIn σb σ' ip r [.int .u8 fo, .str fn, .slice o1 n1 c1 z1, .slice o2 n2 c2 z2] so' many sc' sz' cs1 mo mc mz cs2 ((List.range many).map (pMarks x)) → DAtL (but e σb so) (Pf.dvs (s.drop (sn - many))) cs1 → Q (.exit 3) ts σ') :
    wpC RR Tryz.prog c57_20 ts σ Q := by
  show wpC RR Tryz.prog (.loop c57_19) _ _ _
  refine wp_loopK (fun ts σ' m => ∃ (k : Nat) (so' : Option (Nat × Nat)) (sc' : Option Nat) (sz' : Nat) (cs1 : List AV) (mo : Option (Nat × Nat)) (mc : Option Nat) (mz : Nat) (cs2 : List AV) (v11 v12 : AV), k + m = many ∧ PLive ts v0 v2 (.slice so sn sc sz) v4 (.int .i64 sn) (.int .u8 x) v7 (.int .i64 many) (.ptr (some (ip, 0))) (.int .i64 k) v11 v12 ∧
      PIn σb σ' ip r [.int .u8 fo, .str fn, .slice o1 n1 c1 z1, .slice o2 n2 c2 z2] so' k sc' sz' cs1 mo mc mz cs2 ((List.range k).map (pMarks x)) ∧ DAtL (but e σb so) (Pf.dvs ((s.drop (sn - many)).take k)) cs1) many
    ⟨0, none, some 0, 0, [], none, some 0, 0, [], v11, v12, by omega, hL, hP, by simp [Pf.dvs, DAtL]⟩ ?_
  rintro m ts σ' ⟨k, so', sc', sz', cs1, mo, mc, mz, cs2, v11, v12, hkm, hL, hI, hD⟩
  obtain ⟨a, rfl⟩ := hL.open
  have hlen := hS.len
  by_cases hlt : k < many
  · have d1 : decide ((k : Int) < (many : Int)) = true := decide_eq_true (by omega)
    obtain ⟨p, hp⟩ : ∃ p, s[sn - many + k]? = some p := ⟨s[sn - many + k]'(by omega), List.getElem?_eq_getElem _⟩
    obtain ⟨rfl, is, xs, rfl, hgs, hl8, hxs, hdp⟩ := hS.elem hp
    have hgs' := hI.grow.sub _ _ hgs
    have hisl := hS.grown.wf.lt hgs
    have hipl := hI.grow.wf.lt hI.at'
    have hgi := hI.at'
    obtain ⟨pr, pf, pn, psl, pm, ep⟩ := proof_is p
    obtain ⟨fo', fn', fa', fl', ef⟩ := form_is pf
    subst ef
    have hdp0 := hdp
    rw [ep] at hdp
    obtain ⟨p1, q1, y1, p2, q2, y2, p3, q3, y3, p4, q4, y4, rfl, _, _, _⟩ := Pf.cells hdp
    have w1 : wrapF .i64 ((sn : Int) - (many : Int)) = ((sn - many : Nat) : Int) := by rw [wrap_i64 (by omega)]; omega
    have w2 : wrapF .i64 (((sn - many : Nat) : Int) + (k : Int)) = ((sn - many + k : Nat) : Int) := by rw [wrap_i64 (by omega)]; omega
    have e1 : (0 : Int) ≤ ((sn - many + k : Nat) : Int) ∧ ((sn - many + k : Nat) : Int) < (sn : Int) := by omega
    have hG2 := hI.subs.push (.cells [.str pr, .int .u8 fo', .str fn', .slice p1 fa'.length q1 y1, .slice p2 fl'.length q2 y2, .int .i64 pn, .slice p3 psl.length q3 y3, .slice p4 pm.length q4 y4] true)
    obtain ⟨es, he, hG3, hK3⟩ := hG2.kept (bytes := 144) (xs := [.str pr, .int .u8 fo', .str fn', .slice p1 fa'.length q1 y1, .slice p2 fl'.length q2 y2, .int .i64 pn, .slice p3 psl.length q3 y3, .slice p4 pm.length q4 y4]) (by omega) rfl rfl (decide_eq_true (by omega))
    have hgi2 : (σ'.push (.cells [.str pr, .int .u8 fo', .str fn', .slice p1 fa'.length q1 y1, .slice p2 fl'.length q2 y2, .int .i64 pn, .slice p3 psl.length q3 y3, .slice p4 pm.length q4 y4] true)).get ip = some (.cells (.str r :: ([.int .u8 fo, .str fn, .slice o1 n1 c1 z1, .slice o2 n2 c2 z2] ++ [.int .i64 0, .slice so' k sc' sz', .slice mo k mc mz])) true) := sub_push hI.grow.wf _ _ _ hI.at'
    have hgi3 := hK3.keep ip _ (fun q => hI.n1 q) hgi2
    have hip3 := hK3.wf.lt hgi3
    simp -implicitDefEqProofs (maxDischargeDepth := 15) only [↓reduceIte, Yr, Ys, Yt, Yz, Wg, Wj, Wk, Wl, Wm, Wo, opA, Wv, Ww, Wx, Wy, Wz, Va, Za, Zb, Zc, Zd, Ze, Vb, Vc, Vd, Ve, AV.cells, Vg, partA, Zf, Zg, Zh, Zi, Nat.reduceAdd, Nat.reduceLeDiff, Zj, Zk, Zm, Zn, Zo, Zp, Zq, Zr, Zs, Zt, binA, fillA, putL, allOne, Zu, Zv, AV.one, Zy, and_self, lenA, firstA, Yf, eq_self, c57_5, c57_12, c57_13, c57_14, c57_15, c57_16, c57_17, c57_18, c57_19, d1, w1, w2, e1, hgi, hgs', hl8, hxs, he, hgi3]
    have hW' := hI.grow.wf
    have hnx : σ'.next < (σ'.push (.cells [.str pr, .int .u8 fo', .str fn', .slice p1 fa'.length q1 y1, .slice p2 fl'.length q2 y2, .int .i64 pn, .slice p3 psl.length q3 y3, .slice p4 pm.length q4 y4] true)).next := Nat.lt_succ_self _
    have hK2 : Kept (fun _ => False) σ' (σ'.push (.cells [.str pr, .int .u8 fo', .str fn', .slice p1 fa'.length q1 y1, .slice p2 fl'.length q2 y2, .int .i64 pn, .slice p3 psl.length q3 y3, .slice p4 pm.length q4 y4] true)) := (Kept.refl hW').push _
    generalize (σ'.push (.cells [.str pr, .int .u8 fo', .str fn', .slice p1 fa'.length q1 y1, .slice p2 fl'.length q2 y2, .int .i64 pn, .slice p3 psl.length q3 y3, .slice p4 pm.length q4 y4] true)) = σ2 at *
    have hM3 := hI.marks.keptBy ((hK2.mono (Own' := fun j => so' = some (j, 0)) (fun _ q => q.elim)).trans hK3) (fun i hi q => hI.n3 i q hi) (fun j hj => (hI.subs.at_lt hj).1)
    have hle2 := hK2.le
    have hle3 := hK3.le
    have hs3l := (hG3.at_lt rfl).2
    generalize σ2.app es = σ3 at *
    have hipn : ip ≠ σ2.next := by omega
    have hK4 : Kept (fun j => j = ip) σ3 (σ3.set ip (.cells [.str r, .int .u8 fo, .str fn, .slice o1 n1 c1 z1, .slice o2 n2 c2 z2, .int .i64 0, .slice (some (σ2.next, 0)) (k + 1) none 8, .slice mo k mc mz] true)) := (Kept.refl hK3.wf).set (Own := fun j => j = ip) rfl hip3 _
    have hG4 := hG3.keptBy hK4 (fun i hi q => by cases hi; exact hipn q.symm) (fun j hj => by rw [hj]; exact hI.ipl)
    have hM4 := hM3.keptBy hK4 (fun i hi q => by subst q; exact hI.n2 hi) (fun j hj => by rw [hj]; exact hI.ipl)
    have hgi4 : (σ3.set ip (.cells [.str r, .int .u8 fo, .str fn, .slice o1 n1 c1 z1, .slice o2 n2 c2 z2, .int .i64 0, .slice (some (σ2.next, 0)) (k + 1) none 8, .slice mo k mc mz] true)).get ip = some (.cells [.str r, .int .u8 fo, .str fn, .slice o1 n1 c1 z1, .slice o2 n2 c2 z2, .int .i64 0, .slice (some (σ2.next, 0)) (k + 1) none 8, .slice mo k mc mz] true) := Vk
    have hs4l : σ2.next < (σ3.set ip (.cells [.str r, .int .u8 fo, .str fn, .slice o1 n1 c1 z1, .slice o2 n2 c2 z2, .int .i64 0, .slice (some (σ2.next, 0)) (k + 1) none 8, .slice mo k mc mz] true)).next := hs3l
    have hi4l : ip < (σ3.set ip (.cells [.str r, .int .u8 fo, .str fn, .slice o1 n1 c1 z1, .slice o2 n2 c2 z2, .int .i64 0, .slice (some (σ2.next, 0)) (k + 1) none 8, .slice mo k mc mz] true)).next := hip3
    generalize (σ3.set ip (.cells [.str r, .int .u8 fo, .str fn, .slice o1 n1 c1 z1, .slice o2 n2 c2 z2, .int .i64 0, .slice (some (σ2.next, 0)) (k + 1) none 8, .slice mo k mc mz] true)) = σ4 at *
    refine pmarks_ok (x := x) (k := k) hx (by omega) hK4.wf ⟨rfl, rfl, rfl, rfl, rfl, rfl, rfl, rfl, rfl, rfl, rfl, rfl, rfl⟩ ?_
    intro ts5 σ5 o5 c5 z5 hL5 hG45 hD5
    obtain ⟨a, rfl⟩ := hL5.open
    have hgi5 := hG45.sub _ _ hgi4
    have hi5l := hG45.wf.lt hgi5
    have hM5 := hM4.grow hG45
    have hM6 := hM5.push (.cells [.slice o5 (pMarks x k).length c5 z5] true)
    obtain ⟨es7, he7, hM7, hK7⟩ := hM6.kept (bytes := 24) (xs := [.slice o5 (pMarks x k).length c5 z5]) (by omega) rfl rfl (decide_eq_true (by omega))
    have hgi6 := sub_push hG45.wf (.cells [.slice o5 (pMarks x k).length c5 z5] true) _ _ hgi5
    have hgi7 := hK7.keep ip _ (fun q => hI.n2 q) hgi6
    have w6 : wrapF .i64 ((k : Int) + 1) = ((k + 1 : Nat) : Int) := by rw [wrap_i64 (by omega)]; rfl
    simp -implicitDefEqProofs (maxDischargeDepth := 15) only [↓reduceIte, Yr, Ys, Yt, Wj, Wo, Wr, Ws, opA, Wv, Ww, Wx, Wy, Wz, Va, Za, Zb, Zc, Zd, Ze, Vb, Vc, Vd, Ve, AV.cells, Vg, partA, Zf, Zg, Zh, Zi, Nat.reduceAdd, Zj, Zk, Zm, Zn, Zo, Zp, Zq, Zr, Zs, Zt, binA, fillA, putL, allOne, Zu, Zv, AV.one, Zy, and_self, lenA, firstA, eq_self, hgi5, he7, hgi7, w6, lk_n]
    have hmlt : ∀ i, mo = some (i, 0) → i < σ'.next := fun i hi => (hI.marks.at_lt hi).2
    have hl45 := hG45.le
    have hl34 := hK4.le
    have hbl := hI.grow.le
    have hi7l := hK7.wf.lt hgi7
    have hK8 : Kept (fun j => j = ip) ((σ5.push (.cells [.slice o5 (pMarks x k).length c5 z5] true)).app es7) (((σ5.push (.cells [.slice o5 (pMarks x k).length c5 z5] true)).app es7).set ip (.cells [.str r, .int .u8 fo, .str fn, .slice o1 n1 c1 z1, .slice o2 n2 c2 z2, .int .i64 0, .slice (some (σ2.next, 0)) (k + 1) none 8, .slice (some ((σ5.push (.cells [.slice o5 (pMarks x k).length c5 z5] true)).next, 0)) (k + 1) none 1] true)) := (Kept.refl hK7.wf).set (Own := fun j => j = ip) rfl hi7l _
    have hK58 : Kept (fun j => j = ip ∨ mo = some (j, 0)) σ5 _ := (((Kept.refl hG45.wf).push _).trans (hK7.mono fun j q => .inr q)).trans (hK8.mono fun j q => .inl q)
    have hK48 : Kept (fun j => j = ip ∨ mo = some (j, 0)) σ4 _ := (Kept.ofGrow hG45).trans hK58
    have hK' : Kept (fun j => j = ip ∨ so' = some (j, 0) ∨ mo = some (j, 0)) σ' _ := (((hK2.mono fun j q => q.elim).trans (hK3.mono fun j q => .inr (.inl q))).trans (hK4.mono fun j q => .inl q)).trans (hK48.mono fun j q => q.imp id .inr)
    have hsub8 := hG4.keptBy hK48 (fun i hi q => by
      cases hi
      rcases q with q | q
      · exact hipn q.symm
      · have := hmlt _ q; omega) (fun j hj => by
      rcases hj with hj | hj
      · rw [hj]; exact hI.ipl
      · exact (hI.marks.at_lt hj).1)
    have hmar8 := hM7.keptBy hK8 (fun i hi q => by cases hi; have : σ5.next < σ5.next := by rw [AState.push_next] at *; omega
                                                   omega) (fun j hj => by rw [hj]; exact hI.ipl)
    refine ⟨m - 1, by omega, k + 1, _, _, _, _, _, _, _, _, _, _, by omega, ⟨rfl, rfl, rfl, rfl, rfl, rfl, rfl, rfl, rfl, rfl, rfl, rfl, rfl⟩, ⟨⟨Nat.le_trans hI.grow.le hK'.le, fun i b e => hK'.keep i b (fun q => ?_) (hI.grow.sub i b e), hK8.wf⟩, hI.ipl, Vk, hsub8, hmar8, ?_, ?_, ?_, ?_⟩, ?_⟩
    · have h1 := hS.grown.wf.lt e
      have h2 := hI.ipl
      rcases q with q | q | q
      · omega
      · have := (hI.subs.at_lt q).1; omega
      · have := (hI.marks.at_lt q).1; omega
    · rw [List.range_succ, List.map_append, List.map_append]
      refine DAtL.append_iff.2 ⟨cs2, _, rfl, DAtL.sub (fun j b e => ?_) _ _ hI.mdat, DAtL.cons_iff.2 ⟨_, _, rfl, DAt.sub (fun j b e => ?_) _ _ hD5, DAtL.nil_iff.2 rfl⟩⟩
      · obtain ⟨h1, h2, h3, h4, h5⟩ := inner_some e
        have h6 := hW'.lt h5
        refine inner_mk h1 h2 (fun q => by cases q; omega) (fun q => by cases q; simp only [AState.push_next] at h6; omega) (hK'.keep j b (fun q => ?_) h5)
        rcases q with q | q | q
        · exact h2 q
        · exact h3 q
        · exact h4 q
      · obtain ⟨h1, h5⟩ := newer_some e
        have h6 := hG45.wf.lt h5
        refine inner_mk (by omega) (by omega) (fun q => by cases q; omega) (fun q => by cases q; simp only [AState.push_next] at h6; omega) (hK58.keep j b (fun q => ?_) h5)
        rcases q with q | q
        · omega
        · have := hmlt _ q; omega
    · intro q; cases q; exact hipn rfl
    · intro q; cases q; simp only [AState.push_next] at hi5l; omega
    · intro i hi q
      simp only [Option.some.injEq, Prod.mk.injEq, and_true, AState.push_next] at hi q
      omega
    · rw [pdvs_slice s hp]
      exact DAtL.append_iff.2 ⟨cs1, _, rfl, hD, by rw [ep]; rw [ep] at hdp0; exact hdp0⟩
  · have d1 : decide ((k : Int) < (many : Int)) = false := decide_eq_false (by omega)
    have hkk : k = many := by omega
    subst hkk
    have htk : (s.drop (sn - k)).take k = s.drop (sn - k) := List.take_of_length_le (by simp; omega)
    rw [htk] at hD
    simp -implicitDefEqProofs (maxDischargeDepth := 15) only [↓reduceIte, Yr, Ys, Yt, Wa, Wi, Wj, Wk, Wl, Wo, Wp, opA, Wv, Wx, Wy, Wz, Za, Zb, Vb, binA, eq_self, c57_5, c57_12, c57_13, c57_14, c57_15, c57_16, c57_17, c57_18, c57_19, d1, lk_e]
    exact hQ _ σ' _ _ _ _ _ _ _ _ _ _ _ ⟨rfl, rfl, rfl, rfl, rfl, rfl, rfl, rfl, rfl, rfl, rfl, rfl, rfl⟩ hI hD
end Go.Am
namespace Go.Am
open Go.RowKit Go.Proofs Do
set_option maxRecDepth 100000
theorem DAt.one {g : Mem} : ∀ {d : DV} {v : AV}, DAt g d v → v.one = true
  | .int .., _, h | .bool _, _, h | .str _, _, h => by simp only [DAt] at h; subst h; rfl
  | .sl .., _, h => by simp only [DAt] at h; obtain ⟨o, c, z, rfl, _⟩ := h; rfl
theorem DAtL.one {g : Mem} : ∀ {ds : List DV} {l : List AV}, DAtL g ds l → allOne l = true
  | [], l, h => by rw [DAtL.nil_iff.1 h]; rfl
  | d :: ds, l, h => by
    obtain ⟨v, r, rfl, hv, hr⟩ := DAtL.cons_iff.1 h
    have h1 := DAtL.one hr
    unfold allOne at h1 ⊢
    rw [List.all_cons, DAt.one hv, h1]; rfl
abbrev zeroF : List AV := [.int .u8 0, .str [], nilA, nilA]
theorem append_new {g : Mem} {next n : Nat} {xs : List AV} (hn : 0 < n) (hg : grows n 72 = true) : appendA g next 4 72 (.slice none 0 (some 0) 4) n xs = some (.slice (some (next, 0)) n none 4, [.push (.cells xs true)]) := by
  simp [appendA, hg, show n ≠ 0 by omega]
theorem growF_ok {n : Nat} (hn : 0 < n) (hb : n ≤ 1000000) (σ : AState) :
    RunF RR Tryz.prog n_slices_Grow_api_Form [nilA, .int .i64 n] σ (fun u σ' => u = .slice (some (σ.next, 0)) 0 none 4 ∧ σ' = σ.push (.cells (List.replicate n zeroF).flatten true)) := by
  refine runF_intro hmx rf_slices_Grow_api_Form ?_
  have d1 : decide ((n : Int) < 0) = false := decide_eq_false (by omega)
  have w1 : wrapF .i64 ((n : Int) - 0) = (n : Int) := by rw [wrap_i64 (by omega)]; omega
  have d2 : decide ((n : Int) > 0) = true := decide_eq_true (by omega)
  have c1 : n * 72 ≤ 281474976710656 := by omega
  have c2 : grows n 72 = true := decide_eq_true ⟨by omega, by omega⟩
  simp -implicitDefEqProofs (maxDischargeDepth := 15) only [↓reduceIte, Yr, Ys, Yt, Yz, Wa, Wg, Wh, Wj, Wk, Wl, Wo, opA, Wv, Ww, Wx, Wy, Wz, Za, Zb, List.replicate, Zc, Zd, Ze, Vb, Vc, Vd, Vq, Zf, Zg, Nat.reduceAdd, Nat.reduceSub, Zj, Nat.zero_le, Zk, Zl, binA, and_self, EndOk, resultA, oneOf, Zz, Ya, reduceCtorEq, natOf, upTo, bMax, bHigh, bLow, boundsA, evO, Yh, Yi, eq_self, Yl, or_true, or_false, i_slices_Grow_api_Form, c9_0, c9_1, c9_2, c9_3, c9_4, c9_5, c9_6, c9_7, c9_8, d1, w1, d2, c1, append_new hn c2, hn, show wrapF .i64 (((0 : Nat) : Int) - ((0 : Nat) : Int)) = 0 from by decide, show (0 < 4) = True from by simp, show (0 < 72) = True from by simp]
structure Cat (σ σ' : AState) (o : Option (Nat × Nat)) (n : Nat) (xs : List AV) : Prop where
  grow : Grow σ σ'
  at' : ∃ j cl, o = some (j, 0) ∧ σ.next ≤ j ∧ σ'.get j = some (.cells cl true) ∧ n * 4 ≤ cl.length ∧ cl.take (n * 4) = xs
theorem Cat.append {σ σ' : AState} {o : Option (Nat × Nat)} {n m : Nat} {xs ys : List AV} (hW : σ.Wf) (h : Cat σ σ' o n xs) (hy : ys.length = m * 4) (ho : allOne ys = true) (hg : grows (n + m) 72 = true) :
    ∃ o' es, appendA σ'.get σ'.next 4 72 (.slice o n none 4) m ys = some (.slice o' (n + m) none 4, es) ∧ Cat σ (σ'.app es) o' (n + m) (xs ++ ys) := by
  obtain ⟨hG, j, cl, rfl, hj, hc, hl, hx⟩ := h
  by_cases hm : m = 0
  · subst hm
    have : ys = [] := List.length_eq_zero_iff.1 (by omega)
    subst this
    exact ⟨_, [], by simp [appendA], hG, j, cl, rfl, hj, hc, hl, by simpa using hx⟩
  · refine ⟨some (σ'.next, 0), [.kill j, .push (.cells (xs ++ ys) true)], ?_, ⟨Nat.le_succ_of_le hG.le, fun i b e => ?_, (hG.wf.kill j).push _⟩, σ'.next, xs ++ ys, rfl, hG.le, Vg (σ := σ'.kill j), ?_, ?_⟩
    · simp [appendA, hm, hc, hl, ho, hg, hx]
    · have h1 := hG.sub i b e
      have h2 := hW.lt e
      show ((σ'.kill j).push _).get i = some b
      rw [Vh (by show i < σ'.next; exact hG.wf.lt h1), Vm (by omega)]; exact h1
    · have := congrArg List.length hx
      rw [List.length_take, Nat.min_eq_left hl] at this
      rw [List.length_append]; omega
    · have := congrArg List.length hx
      rw [List.length_take, Nat.min_eq_left hl] at this
      exact List.take_of_length_le (by rw [List.length_append]; omega)
theorem Fs.first {g : Mem} {o : Option (Nat × Nat)} {c : Option Nat} {z : Nat} {x : List F} (h : Fs g o x.length z x) (h0 : x = [] → o = none) : ∃ ys, firstA g 4 x.length (.slice o x.length c z) = some ys ∧ DAtL g (F.dvs x) ys := by
  by_cases hx : x = []
  · subst hx
    rw [h0 rfl]
    exact ⟨[], rfl, by simp [F.dvs, DAtL]⟩
  · have hl : x.length ≠ 0 := fun e => hx (List.length_eq_zero_iff.1 e)
    obtain ⟨i, off, cs, w, xs, rfl, hg, hle, rfl, hd⟩ := h.2.2.resolve_left hl
    exact ⟨_, by simp only [firstA, hg, if_pos hle], hd⟩
set_option maxHeartbeats 2000000 in
theorem concat_ok {σ : AState} {ls : List (List F)} {cs : List AV} {i n : Nat} {cc : Option Nat} {w : Bool} (hn : ls.length = n) (hi : σ.get i = some (.cells cs w))
    (hcs : ∀ (k : Nat) (x : List F), ls[k]? = some x → ∃ (o : Option (Nat × Nat)) (c : Option Nat) (z : Nat), cs[k]? = some (AV.slice o x.length c z) ∧ Fs σ.get o x.length z x ∧ (x = [] → o = none)) (hp : 0 < ls.flatten.length) (hb : ls.flatten.length ≤ 1000) (hnb : n ≤ 1000) :
    RunF RR Tryz.prog n_slices_Concat_api_Form [.slice (some (i, 0)) n cc 1] σ (fun u σ' => ∃ o' c' z', u = .slice o' ls.flatten.length c' z' ∧ Fs σ'.get o' ls.flatten.length z' ls.flatten ∧ Grow σ σ') := by
  refine RunV.wf fun hW => ?_
  refine runF_intro hmx rf_slices_Concat_api_Form ?_
  have hsub : ∀ k, (ls.take k).flatten.length ≤ ls.flatten.length := fun k => by
    conv => rhs; rw [← List.take_append_drop k ls, List.flatten_append, List.length_append]
    omega
  simp -implicitDefEqProofs (maxDischargeDepth := 15) only [Yr, Ys, Yt, Wj, Wk, Wm, Wo, opA, Wv, Ww, Wx, Wy, Wz, Za, Zb, List.replicate, Zc, Zd, Ze, Vb, Zf, Zg, Nat.reduceSub, Zk, i_slices_Concat_api_Form, c83_0, c83_1, c83_2, c83_3, c83_4, c83_5, c83_6, c83_7, c83_8, c83_9, c83_10, c83_11, c83_12, c83_13, c83_14, c83_15, c83_16, c83_17, c83_18, c83_19, c83_20, c83_21, c83_22, c83_23, c83_24, c83_25]
  refine wp_loopK (fun ts σ' m => ∃ k : Nat, k + m = n ∧ σ' = σ ∧ ∃ j1 j2 j4 j5 j6 j7 j8 j12 j13 j14 j15 j16 j17 j18 j19 j20 j21 j22 j23 j24 j25 j26 j27 j28 j29 j30 j31 j32 j33 j34 j35 : AV, ts = [.slice (some (i, 0)) n cc 1, j1, j2, .int .i64 ((ls.take k).flatten.length : Nat), j4, j5, j6, j7, j8, .slice (some (i, 0)) n cc 1, .int .i64 n, .int .i64 k, j12, j13, j14, j15, j16, j17, j18, j19, j20, j21, j22, j23, j24, j25, j26, j27, j28, j29, j30, j31, j32, j33, j34, j35]) n ⟨0, by omega, rfl, _, _, _, _, _, _, _, _, _, _, _, _, _, _, _, _, _, _, _, _, _, _, _, _, _, _, _, _, _, _, _, rfl⟩ ?_
  rintro m ts σ' ⟨k, hk, rfl, j1, j2, j4, j5, j6, j7, j8, j12, j13, j14, j15, j16, j17, j18, j19, j20, j21, j22, j23, j24, j25, j26, j27, j28, j29, j30, j31, j32, j33, j34, j35, rfl⟩
  by_cases hlt : k < n
  · obtain ⟨x, hx, _⟩ := get_lt (l := ls) (k := k) (by omega)
    obtain ⟨o, c, z, hc, hF, _⟩ := hcs k x hx
    have d1 : decide ((k : Int) < (n : Int)) = true := decide_eq_true (by omega)
    have e1 : (0 : Int) ≤ (k : Int) ∧ (k : Int) < (n : Int) := by omega
    have w1 : wrapF .i64 ((k : Int) + 1) = ((k + 1 : Nat) : Int) := by rw [wrap_i64 (by omega)]; rfl
    have hs := hsub (k + 1)
    have ht : (ls.take (k + 1)).flatten.length = (ls.take k).flatten.length + x.length := by rw [List.take_add_one, hx]; simp
    have w2 : wrapF .i64 (((ls.take k).flatten.length : Int) + (x.length : Int)) = (((ls.take (k + 1)).flatten.length : Nat) : Int) := by rw [wrap_i64 (by omega)]; omega
    have d2 : decide ((((ls.take (k + 1)).flatten.length : Nat) : Int) < 0) = false := decide_eq_false (by omega)
    simp -implicitDefEqProofs (maxDischargeDepth := 15) only [↓reduceIte, Yr, Ys, Yt, Yz, Wa, Wg, Wj, Wk, Wl, Wm, Wo, Wr, opA, Wv, Ww, Wx, Wy, Wz, Za, Zb, Vb, partA, Zk, binA, and_self, true_and, Yf, eq_self, Yp, e1, hi, hc, Nat.mul_one, w1, w2, d2, lk_n]
    exact ⟨m - 1, by omega, k + 1, by omega, _, _, _, _, _, _, _, _, _, _, _, _, _, _, _, _, _, _, _, _, _, _, _, _, _, _, _, _, _, _, _, rfl⟩
  · have d1 : decide ((k : Int) < (n : Int)) = false := decide_eq_false (by omega)
    simp -implicitDefEqProofs (maxDischargeDepth := 15) only [↓reduceIte, Yr, Ys, Yt, Wa, Wb, Wi, Wj, Wk, Wl, Wo, Wp, Ws, opA, Wv, Ww, Wx, Wy, Wz, Za, Zb, Vb, Zh, Zi, binA, eq_self, d1, lk_e]
    obtain rfl : n = k := by omega
    rw [List.take_of_length_le (by omega)]
    refine RunV.to (growF_ok hp (by omega) _) ?_
    have hn0 : σ'.next = σ'.next := rfl
    have hlen : (List.replicate ls.flatten.length zeroF).flatten.length = ls.flatten.length * 4 := by simp
    simp -implicitDefEqProofs (maxDischargeDepth := 15) only [Yr, Ys, Yt, Wj, Wk, Wm, Wo, Wu, opA, Wv, Ww, Wx, Wy, Wz, Za, Zb, Vb]
    refine wp_loopK (fun ts σ'' m => ∃ (k : Nat) (o : Option (Nat × Nat)) (xs : List AV), k + m = n ∧ Cat σ' σ'' o (ls.take k).flatten.length xs ∧ DAtL σ'.get (F.dvs (ls.take k).flatten) xs ∧ ∃ j1 j2 j3 j4 j5 j7 j8 j9 j10 j11 j12 j13 j14 j15 j16 j17 j18 j19 j20 j21 j22 j23 j24 j28 j29 j30 j31 j32 j33 j34 j35 : AV, ts = [.slice (some (i, 0)) n cc 1, j1, j2, j3, j4, j5, .slice o (ls.take k).flatten.length none 4, j7, j8, j9, j10, j11, j12, j13, j14, j15, j16, j17, j18, j19, j20, j21, j22, j23, j24, .slice (some (i, 0)) n cc 1, .int .i64 n, .int .i64 k, j28, j29, j30, j31, j32, j33, j34, j35]) n
      ⟨0, some (σ'.next, 0), [], by omega, ⟨(Grow.refl hW).push _, _, _, rfl, Nat.le_refl _, Vg, by simp, by simp⟩, by simp [F.dvs, DAtL], _, _, _, _, _, _, _, _, _, _, _, _, _, _, _, _, _, _, _, _, _, _, _, _, _, _, _, _, _, _, _, rfl⟩ ?_
    rintro m ts σ2 ⟨k, o6, xs, hk, hC, hD, j1, j2, j3, j4, j5, j7, j8, j9, j10, j11, j12, j13, j14, j15, j16, j17, j18, j19, j20, j21, j22, j23, j24, j28, j29, j30, j31, j32, j33, j34, j35, rfl⟩
    by_cases hlt : k < n
    · obtain ⟨x, hx, _⟩ := get_lt (l := ls) (k := k) (by omega)
      obtain ⟨o, c, z, hc, hF, h0⟩ := hcs k x hx
      have hi2 := hC.grow.sub _ _ hi
      obtain ⟨ys, hf, hy⟩ := Fs.first (c := c) (hF.sub hC.grow.sub) h0
      obtain ⟨ys', hf', hy'⟩ := Fs.first (c := c) hF h0
      have hyy : ys = ys' := by
        have := hf'
        cases hxx : x.length with
        | zero =>
          rw [h0 (List.length_eq_zero_iff.1 hxx)] at hf hf'
          simp only [firstA, hxx, if_true, Option.some.injEq] at hf hf'
          rw [← hf, ← hf']
        | succ nn =>
          obtain ⟨j, off, c0, w0, _, rfl, hg, hle, _, _⟩ := hF.2.2.resolve_left (by omega)
          simp only [firstA, hg, if_pos hle, Option.some.injEq] at hf'
          simp only [firstA, hC.grow.sub _ _ hg, if_pos hle, Option.some.injEq] at hf
          rw [← hf, ← hf']
      subst hyy
      have d1 : decide ((k : Int) < (n : Int)) = true := decide_eq_true (by omega)
      have e1 : (0 : Int) ≤ (k : Int) ∧ (k : Int) < (n : Int) := by omega
      have w1 : wrapF .i64 ((k : Int) + 1) = ((k + 1 : Nat) : Int) := by rw [wrap_i64 (by omega)]; rfl
      have hs := hsub (k + 1)
      have ht : (ls.take (k + 1)).flatten = (ls.take k).flatten ++ x := by rw [List.take_add_one, hx]; simp
      have htl : (ls.take (k + 1)).flatten.length = (ls.take k).flatten.length + x.length := by rw [ht, List.length_append]
      obtain ⟨o7, es, ha, hC'⟩ := hC.append hW (by rw [hy.length, F.dvs_len]) hy.one (m := x.length) (decide_eq_true ⟨by omega, by omega⟩)
      rw [← htl] at ha hC'
      unfold firstA at hf
      simp -implicitDefEqProofs (maxDischargeDepth := 15) only [↓reduceIte, Yr, Ys, Yt, Yz, Wg, Wj, Wk, Wl, Wm, Wo, Wr, opA, Wv, Ww, Wx, Wy, Wz, Za, Zb, Vb, partA, Zk, binA, and_self, lenA, firstA, Yf, eq_self, Yp, e1, hi2, hc, Nat.mul_one, w1, hf, ha, lk_n]
      exact ⟨m - 1, by omega, k + 1, o7, xs ++ ys, by omega, hC', by rw [ht, dvs_append]; exact DAtL.append_iff.2 ⟨_, _, rfl, hD, hy'⟩, _, _, _, _, _, _, _, _, _, _, _, _, _, _, _, _, _, _, _, _, _, _, _, _, _, _, _, _, _, _, _, rfl⟩
    · have d1 : decide ((k : Int) < (n : Int)) = false := decide_eq_false (by omega)
      obtain rfl : n = k := by omega
      rw [List.take_of_length_le (by omega)] at hC hD
      simp -implicitDefEqProofs (maxDischargeDepth := 15) only [↓reduceIte, Yr, Ys, Yt, Wa, Wh, Wi, Wj, Wk, Wl, Wo, Wp, Ws, opA, Wv, Wx, Wy, Wz, Za, Zb, Vb, binA, EndOk, resultA, oneOf, Zz, eq_self, d1, lk_e]
      obtain ⟨hG, j, cl, rfl, hj, hc, hl, hx⟩ := hC
      exact ⟨_, _, _, by rw [List.take_of_length_le (by omega)], ⟨rfl, .inr rfl, .inr ⟨j, 0, cl, true, xs, rfl, hc, by omega, by rw [List.drop_zero, hx], DAtL.sub hG.sub _ _ hD⟩⟩, hG⟩
end Go.Am
namespace Go.Am
open Go.RowKit Go.Proofs Do
set_option maxRecDepth 100000
theorem Bys.cut {g : Mem} {o : Option (Nat × Nat)} {n z : Nat} {l : List Nat} (h : Bys g o n z l) {lo hi : Nat} (h1 : lo ≤ hi) (h2 : hi ≤ n) : Bys g (o.map fun p => (p.1, p.2 + lo)) (hi - lo) z ((l.take hi).drop lo) := by
  rcases h with ⟨rfl, rfl, rfl⟩ | ⟨hl, rfl, i, off, cs, w, rfl, hg, hle, hcs⟩
  · exact .inl ⟨rfl, by omega, by simp⟩
  · refine .inr ⟨by simp; omega, rfl, i, off + lo, cs, w, rfl, hg, by omega, ?_⟩
    rw [List.map_drop, List.map_take, ← hcs, List.take_take, Nat.min_eq_left h2, List.drop_take, List.drop_drop]
theorem law_join_ok (σ : AState) (op : Int) (o : Option (Nat × Nat)) (n : Nat) (c : Option Nat) (z : Nat) : RunF RR Tryz.prog n_law41_join [.int .u8 op, .slice o n c z] σ (fun u σ' => u = .agg [.int .u8 op, .str [], nilA, .slice o n c z] ∧ σ' = σ.push (.cells [.int .u8 op, .str [], nilA, .slice o n c z] true)) := by
  refine runF_intro hmx rf_law41_join ?_
  simp -implicitDefEqProofs (maxDischargeDepth := 15) only [↓reduceIte, Yr, Ys, Yt, Wh, Wj, Wk, Wo, opA, Wv, Wx, Wy, Wz, Va, Za, Zb, List.replicate, Zc, Zd, Ze, Vb, Vc, Vd, Ve, AV.cells, Vg, Vn, partA, Zf, Zg, Zh, Zi, Nat.reduceAdd, Nat.reduceLeDiff, Nat.reduceSub, Zj, Zk, Zm, Zn, Zo, Zp, Zs, Zt, fillA, putL, allOne, Zu, Zv, AV.one, Zy, and_self, EndOk, resultA, oneOf, eq_self, i_law41_join, c24_0, c24_1]
abbrev zeroP : List AV := [.str [], .int .u8 0, .str [], nilA, nilA, .int .i64 0, nilA, nilA]
def PNext (l : List Nat) (e : Nat) (σ1 : AState) (v0 v2 : AV) (i : Nat) (s' : List Pf) (Q : Ex → List AV → AState → Prop) : Prop :=
  ∀ (ts : List AV) (σ'' : AState) (so : Option (Nat × Nat)) (sn : Nat) (sc : Option Nat) (sz : Nat) (cs : List AV) (v5 v6 v7 v8 v9 v10 v11 v12 : AV), PLive ts v0 v2 (.slice so sn sc sz) (.int .i64 i) v5 v6 v7 v8 v9 v10 v11 v12 → Stq e σ1 σ'' so sn sc sz s' cs → sn ≤ i + 1 → Q .normal ts σ''
theorem Stq.keep_lt {e : Nat} {σ1 σ : AState} {so : Option (Nat × Nat)} {sn : Nat} {sc : Option Nat} {sz : Nat} {s : List Pf} {cs : List AV} (h : Stq e σ1 σ so sn sc sz s cs) {i : Nat} (hi : so = some (i, 0)) : σ1.next ≤ i ∧ i < σ.next := h.grown.at_lt hi
set_option maxHeartbeats 4000000 in
theorem pswitch_ok {l : List Nat} {e : Nat} {σ1 σ : AState} {v0 v2 : AV} {i x : Nat} (hx : x < 256) (hi30 : i < 30) {so : Option (Nat × Nat)} {sn : Nat} {sc : Option Nat} {sz : Nat} {s : List Pf} {cs : List AV} (hS : Stq e σ1 σ so sn sc sz s cs) (hsn : sn ≤ i)
    {fp : Nat} {fo : Nat} {fn : Str} {fa : List T} {fl : List F} {o1 : Option (Nat × Nat)} {c1 : Option Nat} {z1 : Nat} {o2 : Option (Nat × Nat)} {c2 : Option Nat} {z2 : Nat}
    (hfp : σ.get fp = some (.cells [.int .u8 fo, .str fn, .slice o1 fa.length c1 z1, .slice o2 fl.length c2 z2] true)) (hf : pForm l i x = .mk fo fn fa fl)
    (hfd : DAtL (but e σ so) (F.mk fo fn fa fl).dv [.int .u8 fo, .str fn, .slice o1 fa.length c1 z1, .slice o2 fl.length c2 z2])
    {v9 v10 v11 v12 : AV} {ts : List AV} (hL : PLive ts v0 v2 (.slice so sn sc sz) (.int .i64 i) (.int .i64 sn) (.int .u8 x) (.ptr (some (fp, 0))) (.int .i64 (x / 4 % 5 : Nat)) v9 v10 v11 v12) {Q : Ex → List AV → AState → Prop}
    (hQ : PNext l e σ1 v0 v2 i (pStep l s i x) Q) : wpC RR Tryz.prog c57_31 ts σ Q := by
  obtain ⟨a, rfl⟩ := hL.open
  have hlen := hS.len
  have hfl := hS.grown.wf.lt hfp
  have m4 : (x : Int).tmod 4 = ((x % 4 : Nat) : Int) := tmodN x 4
  have z4 : ((4 : Int) = 0) = False := by simp
  by_cases h0 : x % 4 = 0
  · have b0 : (((x % 4 : Nat) : Int) == 0) = true := by simp [h0]
    have w1 : wrapF .i64 (x : Int) = (x : Int) := wrap_i64 (by omega)
    have w2 : wrapF .i64 ((x : Int) * 3) = ((x * 3 : Nat) : Int) := by rw [wrap_i64 (by omega)]; omega
    have w3 : wrapF .i64 (1 + ((x * 3 : Nat) : Int)) = ((1 + x * 3 : Nat) : Int) := by rw [wrap_i64 (by omega)]; omega
    simp -implicitDefEqProofs (maxDischargeDepth := 15) only [↓reduceIte, Yr, Ys, Yt, Yz, Wb, Wj, Wk, Wl, Wm, Wo, opA, Wv, Ww, Wx, Wy, Wz, Za, Zb, Vb, partA, Zf, Zg, Zh, Zi, Nat.reduceAdd, Zj, Zk, Zm, Zo, Zt, binA, eq_self, c57_2, c57_3, c57_4, c57_5, c57_6, c57_7, c57_8, c57_9, c57_10, c57_11, c57_12, c57_13, c57_14, c57_15, c57_16, c57_17, c57_18, c57_19, c57_20, c57_21, c57_22, c57_23, c57_24, c57_25, c57_26, c57_27, c57_28, c57_29, c57_30, c57_31, m4, z4, b0, w1, w2, w3, hfp]
    refine RunV.to (leaf_ok _ _ _ _ _ _ _ _ _ _ _ _) ?_
    have hS3 := ((hS.push (.cells [.int .u8 fo, .str fn, .slice o1 fa.length c1 z1, .slice o2 fl.length c2 z2] true)).push (.cells [.str [], .int .u8 fo, .str fn, .slice o1 fa.length c1 z1, .slice o2 fl.length c2 z2, .int .i64 ((1 + x * 3 : Nat) : Int), nilA, nilA] true)).push (.cells [.str [], .int .u8 fo, .str fn, .slice o1 fa.length c1 z1, .slice o2 fl.length c2 z2, .int .i64 ((1 + x * 3 : Nat) : Int), nilA, nilA] true)
    have hfd3 : DAtL (but e _ so) (F.mk fo fn fa fl).dv _ := DAtL.sub (but_sub ((sub_push hS.grown.wf (.cells [.int .u8 fo, .str fn, .slice o1 fa.length c1 z1, .slice o2 fl.length c2 z2] true)).trans ((sub_push (hS.grown.wf.push _) (.cells [.str [], .int .u8 fo, .str fn, .slice o1 fa.length c1 z1, .slice o2 fl.length c2 z2, .int .i64 ((1 + x * 3 : Nat) : Int), nilA, nilA] true)).trans (sub_push ((hS.grown.wf.push _).push _) (.cells [.str [], .int .u8 fo, .str fn, .slice o1 fa.length c1 z1, .slice o2 fl.length c2 z2, .int .i64 ((1 + x * 3 : Nat) : Int), nilA, nilA] true))))) _ _ hfd
    obtain ⟨i', es, he, hS4⟩ := hS3.append (f := .mk [] (.mk fo fn fa fl) (1 + x * 3) [] []) (xs := [.str [], .int .u8 fo, .str fn, .slice o1 fa.length c1 z1, .slice o2 fl.length c2 z2, .int .i64 ((1 + x * 3 : Nat) : Int), nilA, nilA])
      (pdat hfd3 (dat_nil _ 8) (dat_nil _ 1)) rfl (by omega)
    simp -implicitDefEqProofs (maxDischargeDepth := 15) only [↓reduceIte, Yr, Ys, Yt, Wr, Wu, opA, Wv, Wx, Wy, Wz, Za, Zb, Zd, Ze, Vb, Vc, Vd, AV.cells, Vg, Zf, Zg, Zh, Zi, Nat.reduceAdd, Zj, Zk, Zm, Zn, Zo, Zp, Zs, Zt, fillA, and_self, lenA, firstA, eq_self, he]
    have hb : pStep l s i x = s ++ [.mk [] (.mk fo fn fa fl) (1 + x * 3) [] []] := by unfold pStep; rw [if_pos h0, hf]
    rw [hb] at hQ
    exact hQ _ _ _ _ _ _ _ _ _ _ _ _ _ _ _ ⟨rfl, rfl, rfl, rfl, rfl, rfl, rfl, rfl, rfl, rfl, rfl, rfl, rfl⟩ hS4 (by omega)
  have b0 : (((x % 4 : Nat) : Int) == 0) = false := by simp only [beq_eq_false_iff_ne]; omega
  by_cases h1 : x % 4 = 1
  · have b1 : (((x % 4 : Nat) : Int) == 1) = true := by simp [h1]
    have hS3 := hS.push (.cells [.str [63], .int .u8 fo, .str fn, .slice o1 fa.length c1 z1, .slice o2 fl.length c2 z2, .int .i64 0, nilA, nilA] true)
    obtain ⟨i', es, he, hS4⟩ := hS3.append (f := .mk [63] (.mk fo fn fa fl) 0 [] []) (xs := [.str [63], .int .u8 fo, .str fn, .slice o1 fa.length c1 z1, .slice o2 fl.length c2 z2, .int .i64 ((0 : Nat) : Int), nilA, nilA])
      (pdat (DAtL.sub (but_sub (sub_push hS.grown.wf _)) _ _ hfd) (dat_nil _ 8) (dat_nil _ 1)) rfl (by omega)
    have he' : appendA (σ.push (.cells [.str [63], .int .u8 fo, .str fn, .slice o1 fa.length c1 z1, .slice o2 fl.length c2 z2, .int .i64 0, nilA, nilA] true)).get (σ.push (.cells [.str [63], .int .u8 fo, .str fn, .slice o1 fa.length c1 z1, .slice o2 fl.length c2 z2, .int .i64 0, nilA, nilA] true)).next 8 144 (.slice so sn sc sz) 1 [.str [63], .int .u8 fo, .str fn, .slice o1 fa.length c1 z1, .slice o2 fl.length c2 z2, .int .i64 0, nilA, nilA] = _ := he
    simp -implicitDefEqProofs (maxDischargeDepth := 15) only [↓reduceIte, Yr, Ys, Yt, Yz, Wa, Wj, Wk, Wl, Wm, Wo, Wr, opA, Wv, Ww, Wx, Wy, Wz, Za, Zb, Zc, Zd, Ze, Vb, Vc, Vd, AV.cells, Vg, partA, Zf, Zg, Zh, Zi, Nat.reduceAdd, Nat.reduceLeDiff, Zj, Zk, Zm, Zn, Zo, Zp, Zs, Zt, binA, fillA, and_self, lenA, firstA, eq_self, c57_2, c57_3, c57_4, c57_5, c57_6, c57_7, c57_8, c57_9, c57_10, c57_11, c57_12, c57_13, c57_14, c57_15, c57_16, c57_17, c57_18, c57_19, c57_20, c57_21, c57_22, c57_23, c57_24, c57_25, c57_26, c57_27, c57_28, c57_29, c57_30, c57_31, m4, z4, b0, b1, hfp, he']
    have hb : pStep l s i x = s ++ [.mk [63] (.mk fo fn fa fl) 0 [] []] := by unfold pStep; rw [if_neg h0, if_pos h1, hf]
    rw [hb] at hQ
    exact hQ _ _ _ _ _ _ _ _ _ _ _ _ _ _ _ ⟨rfl, rfl, rfl, rfl, rfl, rfl, rfl, rfl, rfl, rfl, rfl, rfl, rfl⟩ hS4 (by omega)
  have b1 : (((x % 4 : Nat) : Int) == 1) = false := by simp only [beq_eq_false_iff_ne]; omega
  by_cases h2 : x / 4 % 5 ≤ sn
  · have d1 : decide (((x / 4 % 5 : Nat) : Int) ≤ (sn : Int)) = true := decide_eq_true (by omega)
    have m3 : (x : Int).tmod 3 = ((x % 3 : Nat) : Int) := tmodN x 3
    have z3 : ((3 : Int) = 0) = False := by simp
    have e3 : (0 : Int) ≤ ((x % 3 : Nat) : Int) ∧ ((x % 3 : Nat) : Int) < ((3 : Nat) : Int) := by omega
    have g3 : ([.str [97, 110, 100, 73], .str [114, 50], .str [81]] : List AV)[x % 3]? = some (.str (pRule x)) := by
      unfold pRule
      have : x % 3 = 0 ∨ x % 3 = 1 ∨ x % 3 = 2 := by omega
      rcases this with e | e | e <;> rw [e] <;> rfl
    simp -implicitDefEqProofs (maxDischargeDepth := 15) only [↓reduceIte, Yr, Ys, Yt, Yz, Wa, Wj, Wk, Wl, Wm, Wo, opA, Wv, Ww, Wx, Wy, Wz, Va, Za, Zb, Zc, Zd, Ze, Vb, Vc, Vd, Ve, AV.cells, Vg, Vh, Vn, partA, Zf, Zg, Zh, Zi, Nat.reduceAdd, Nat.reduceLeDiff, Zj, Zk, Zm, Zn, Zo, Zp, Zs, Zt, binA, fillA, putL, allOne, Zu, Zv, AV.one, Zy, and_self, Yf, eq_self, c57_2, c57_3, c57_4, c57_21, c57_23, c57_24, c57_25, c57_26, c57_27, c57_28, c57_29, c57_30, c57_31, m4, z4, b0, b1, d1, m3, z3, e3, g3, Nat.mul_one, hfp, hfl]
    have hW := hS.grown.wf
    have hS2 := hS.push (.cells [.str [97, 110, 100, 73], .str [114, 50], .str [81]] true)
    have hW2 := hS2.grown.wf
    have hfd2 := DAtL.sub (but_sub (e := e) (so := so) (sub_push hW (.cells [.str [97, 110, 100, 73], .str [114, 50], .str [81]] true))) _ _ hfd
    have hPI : PIn (σ.push (.cells [.str [97, 110, 100, 73], .str [114, 50], .str [81]] true)) ((σ.push (.cells [.str [97, 110, 100, 73], .str [114, 50], .str [81]] true)).push (.cells [.str (pRule x), .int .u8 fo, .str fn, .slice o1 fa.length c1 z1, .slice o2 fl.length c2 z2, .int .i64 0, nilA, nilA] true)) (σ.push (.cells [.str [97, 110, 100, 73], .str [114, 50], .str [81]] true)).next (pRule x) [.int .u8 fo, .str fn, .slice o1 fa.length c1 z1, .slice o2 fl.length c2 z2] none 0 (some 0) 0 [] none (some 0) 0 [] [] :=
      ⟨(Grow.refl hW2).push _, Nat.le_refl _, Vg, Grown.nil hW2 (hW2.push _) (sub_push hW2 _) (Nat.le_succ _) _ _ _, Grown.nil hW2 (hW2.push _) (sub_push hW2 _) (Nat.le_succ _) _ _ _, by simp [DAtL], by simp, by simp, by simp⟩
    refine psub_ok hx (Nat.mod_lt _ (by omega)) hS2 (by omega) h2 hPI ⟨rfl, rfl, rfl, rfl, rfl, rfl, rfl, rfl, rfl, rfl, rfl, rfl, rfl⟩ ?_
    intro ts3 σ3 so' sc' sz' cs1 mo mc mz cs2 v10 v11 v12 hL3 hI hD
    obtain ⟨a, rfl⟩ := hL3.open
    have hgi := hI.at'
    have hil := hI.grow.wf.lt hgi
    have hS3 := hS2.grow hI.grow
    have w1 : wrapF .i64 ((sn : Int) - ((x / 4 % 5 : Nat) : Int)) = ((sn - x / 4 % 5 : Nat) : Int) := by rw [wrap_i64 (by omega)]; omega
    have hel := hS2.el
    have hSm : Sub (but e (σ.push (.cells [.str [97, 110, 100, 73], .str [114, 50], .str [81]] true)) so) (but e (σ3.push (.cells [.str (pRule x), .int .u8 fo, .str fn, .slice o1 fa.length c1 z1, .slice o2 fl.length c2 z2, .int .i64 0, .slice so' (x / 4 % 5) sc' sz', .slice mo (x / 4 % 5) mc mz] true)) so) := (but_sub hI.grow.sub).trans (but_sub (sub_push hI.grow.wf _))
    have hsol : ∀ i, so = some (i, 0) → i < (σ.push (.cells [.str [97, 110, 100, 73], .str [114, 50], .str [81]] true)).next := fun i hi => (hS2.keep_lt hi).2
    have hs4 := hS3.push (.cells [.str (pRule x), .int .u8 fo, .str fn, .slice o1 fa.length c1 z1, .slice o2 fl.length c2 z2, .int .i64 0, .slice so' (x / 4 % 5) sc' sz', .slice mo (x / 4 % 5) mc mz] true)
    have hsl : DAt (but e (σ3.push (.cells [.str (pRule x), .int .u8 fo, .str fn, .slice o1 fa.length c1 z1, .slice o2 fl.length c2 z2, .int .i64 0, .slice so' (x / 4 % 5) sc' sz', .slice mo (x / 4 % 5) mc mz] true)) so) (.sl 8 (s.drop (sn - x / 4 % 5)).length (Pf.dvs (s.drop (sn - x / 4 % 5)))) (.slice so' (x / 4 % 5) sc' sz') := by
      have : (s.drop (sn - x / 4 % 5)).length = x / 4 % 5 := by simp; omega
      rw [this]
      exact grown_dat hI.subs (fun i b hi _ q => but_mk (fun w => by have := hsol i w; omega) (sub_push hI.grow.wf _ i b q) (by omega)) (DAtL.sub hSm _ _ hD)
    have hml : DAt (but e (σ3.push (.cells [.str (pRule x), .int .u8 fo, .str fn, .slice o1 fa.length c1 z1, .slice o2 fl.length c2 z2, .int .i64 0, .slice so' (x / 4 % 5) sc' sz', .slice mo (x / 4 % 5) mc mz] true)) so) (.sl 1 ((List.range (x / 4 % 5)).map (pMarks x)).length (((List.range (x / 4 % 5)).map (pMarks x)).map mdv)) (.slice mo (x / 4 % 5) mc mz) := by
      have : ((List.range (x / 4 % 5)).map (pMarks x)).length = x / 4 % 5 := by simp
      rw [this]
      refine grown_dat hI.marks (fun i b hi _ q => but_mk (fun w => by have := hsol i w; omega) (sub_push hI.grow.wf _ i b q) (by omega)) (DAtL.sub (fun j b q => ?_) _ _ hI.mdat)
      obtain ⟨q1, q2, q3, q4, q5⟩ := inner_some q
      exact but_mk (fun w => by have := hsol j w; omega) (sub_push hI.grow.wf _ j b q5) (by omega)
    have hpd : DAtL (but e (σ3.push (.cells [.str (pRule x), .int .u8 fo, .str fn, .slice o1 fa.length c1 z1, .slice o2 fl.length c2 z2, .int .i64 0, .slice so' (x / 4 % 5) sc' sz', .slice mo (x / 4 % 5) mc mz] true)) so) (Pf.mk (pRule x) (.mk fo fn fa fl) 0 (s.drop (sn - x / 4 % 5)) ((List.range (x / 4 % 5)).map (pMarks x))).dv [.str (pRule x), .int .u8 fo, .str fn, .slice o1 fa.length c1 z1, .slice o2 fl.length c2 z2, .int .i64 0, .slice so' (x / 4 % 5) sc' sz', .slice mo (x / 4 % 5) mc mz] := pdat (r := pRule x) (n := 0) (DAtL.sub hSm _ _ hfd2) hsl hml
    have hb : pStep l s i x = s.take (sn - x / 4 % 5) ++ [.mk (pRule x) (.mk fo fn fa fl) 0 (s.drop (sn - x / 4 % 5)) ((List.range (x / 4 % 5)).map (pMarks x))] := by unfold pStep; rw [if_neg h0, if_neg h1, if_pos (by omega), hf, hlen]
    rw [hb] at hQ
    have l1 : sn - x / 4 % 5 ≤ sn := by omega
    rcases hS3.grown.at' with ⟨rfl, hsn0⟩ | ⟨rfl, rfl, is, rfl, _, hgs⟩
    · have hs0 : s = [] := List.length_eq_zero_iff.1 (by omega)
      subst hs0
      subst hsn0
      have hmz : x / 4 % 5 = 0 := by omega
      have hcs : cs = [] := List.length_eq_zero_iff.1 (by have := hS.grown.len; omega)
      subst hcs
      have hs5 : Stq e σ1 _ none 0 (some 0) 8 [] [] := ⟨⟨hs4.grown.wf0, hs4.grown.wf, hs4.grown.keep, hs4.grown.le, rfl, .inl ⟨rfl, rfl⟩⟩, by simp [Pf.dvs, DAtL], rfl, hs4.elt⟩
      obtain ⟨i', es, he, hS6⟩ := hs5.append hpd rfl (by omega)
      have z1 : 0 - x / 4 % 5 = 0 := by omega
      simp -implicitDefEqProofs (maxDischargeDepth := 15) only [↓reduceIte, Yr, Ys, Yt, Wj, Wo, Wr, Ws, opA, Wv, Wx, Wy, Wz, Za, Zb, Zc, Zd, Ze, Vb, Vc, Vd, AV.cells, Vg, partA, Zf, Zg, Zh, Zi, Nat.reduceAdd, Zj, Nat.zero_le, Zk, Zl, Zm, Zn, Zo, Zp, Zs, Zt, binA, fillA, and_self, lenA, firstA, Ya, natOf, upTo, bMax, bHigh, bLow, boundsA, evO, Yh, eq_self, Yl, true_or, c57_22, w1, z1, hgi, Nat.sub_zero, Nat.zero_le, he]
      have q1 : ([] : List Pf).take (0 - x / 4 % 5) ++ [.mk (pRule x) (.mk fo fn fa fl) 0 (([] : List Pf).drop (0 - x / 4 % 5)) ((List.range (x / 4 % 5)).map (pMarks x))] = [] ++ [.mk (pRule x) (.mk fo fn fa fl) 0 (([] : List Pf).drop (0 - x / 4 % 5)) ((List.range (x / 4 % 5)).map (pMarks x))] := by simp
      rw [q1] at hQ
      exact hQ _ _ _ _ _ _ _ _ _ _ _ _ _ _ _ ⟨rfl, rfl, rfl, rfl, rfl, rfl, rfl, rfl, rfl, rfl, rfl, rfl, rfl⟩ hS6 (by omega)
    · obtain ⟨he, hS6⟩ := hs4.appendTake (k := sn - x / 4 % 5) rfl l1 hpd (by omega)
      simp -implicitDefEqProofs (maxDischargeDepth := 15) only [↓reduceIte, Yr, Ys, Yt, Wj, Wo, Wr, Ws, opA, Wv, Wx, Wy, Wz, Za, Zb, Zc, Zd, Ze, Vb, Vc, Vd, AV.cells, Vg, partA, Zf, Zg, Zh, Zi, Nat.reduceAdd, Zj, Zk, Zl, Zm, Zn, Zo, Zp, Zs, Zt, binA, fillA, and_self, lenA, firstA, Zz, reduceCtorEq, natOf, upTo, bMax, bHigh, bLow, boundsA, evO, Yh, Yi, eq_self, Yl, or_true, c57_22, w1, l1, hgi, Nat.sub_zero, he]
      exact hQ _ _ _ _ _ _ _ _ _ _ _ _ _ _ _ ⟨rfl, rfl, rfl, rfl, rfl, rfl, rfl, rfl, rfl, rfl, rfl, rfl, rfl⟩ hS6 (by omega)
  · have d1 : decide (((x / 4 % 5 : Nat) : Int) ≤ (sn : Int)) = false := decide_eq_false (by omega)
    simp -implicitDefEqProofs (maxDischargeDepth := 15) only [↓reduceIte, Yr, Ys, Yt, Wa, Wg, Wj, Wk, Wl, Wm, Wo, Wr, opA, Wv, Ww, Wx, Wy, Wz, Za, Zb, Vb, binA, eq_self, c57_2, c57_3, c57_4, c57_21, c57_23, c57_24, c57_25, c57_26, c57_27, c57_28, c57_29, c57_30, c57_31, m4, z4, b0, b1, d1]
    have hb : pStep l s i x = s := by unfold pStep; rw [if_neg h0, if_neg h1, if_neg (by omega)]
    rw [hb] at hQ
    exact hQ _ _ _ _ _ _ _ _ _ _ _ _ _ _ _ ⟨rfl, rfl, rfl, rfl, rfl, rfl, rfl, rfl, rfl, rfl, rfl, rfl, rfl⟩ hS (by omega)
end Go.Am
namespace Go.Am
open Go.RowKit Go.Proofs Do
set_option maxRecDepth 100000
set_option maxHeartbeats 4000000 in
theorem proved_ok {σ : AState} {o : Option (Nat × Nat)} {n z : Nat} {l : List Nat} (hB : Bys σ.get o n z l) (hx : ∀ x ∈ l, x < 256) :
    RunF RR Tryz.prog n_law41_Proved [.slice o n none z] σ (fun u σ' => ∃ xs, u = .agg xs ∧ DAtL (newer σ σ') (proved l).dv xs ∧ Grow σ σ') := by
  refine RunV.wf fun hW => ?_
  refine runF_intro hmx rf_law41_Proved ?_
  have hlen := hB.len
  have hW1 := hW.push (.cells zeroP true)
  have hB1 := hB.sub (sub_push hW (.cells zeroP true))
  simp -implicitDefEqProofs (maxDischargeDepth := 15) only [Yr, Ys, Yt, Wj, Wk, Wm, Wo, opA, Ww, Wz, Za, Zb, List.replicate, Zc, Zd, Ze, Vb, Vc, Vd, Zf, Zg, Nat.reduceSub, Zk, i_law41_Proved, c57_39, c57_46, c57_47, c57_48]
  have h0 : Stq σ.next (σ.push (.cells zeroP true)) (σ.push (.cells zeroP true)) none 0 (some 0) 0 (provedS l 0) [] :=
    ⟨Grown.nil hW1 hW1 (fun _ _ e => e) (Nat.le_refl _) _ _ _, by simp [provedS, Pf.dvs, DAtL], rfl, Nat.lt_succ_self _⟩
  show wpC RR Tryz.prog (.loop c57_37) _ _ _
  refine wp_loopK (fun ts σ' m => ∃ (i : Nat) (so : Option (Nat × Nat)) (sn : Nat) (sc : Option Nat) (sz : Nat) (cs : List AV) (v5 v6 v7 v8 v9 v10 v11 v12 : AV), Stq σ.next (σ.push (.cells zeroP true)) σ' so sn sc sz (provedS l i) cs ∧ sn ≤ i ∧ i ≤ 30 ∧ i + m = min n 30 ∧
    PLive ts (.slice o n none z) (.ptr (some (σ.next, 0))) (.slice so sn sc sz) (.int .i64 i) v5 v6 v7 v8 v9 v10 v11 v12) (min n 30) ⟨0, none, 0, some 0, 0, [], _, _, _, _, _, _, _, _, h0, Nat.le_refl _, by omega, by omega, rfl, rfl, rfl, rfl, rfl, rfl, rfl, rfl, rfl, rfl, rfl, rfl, rfl⟩ ?_
  rintro m ts σ' ⟨i, so, sn, sc, sz, cs, v5, v6, v7, v8, v9, v10, v11, v12, hS, hsi, hi30, him, hL⟩
  obtain ⟨a, rfl⟩ := hL.open
  have hSl := hS.len
  by_cases hlt : i < min n 30
  · obtain ⟨x, hxi, hxm⟩ := get_lt (l := l) (k := i) (by omega)
    have hx8 := hx x hxm
    have hBk := hB1.sub hS.grown.keep
    obtain ⟨rfl, ib, off, bs, w, rfl, hg, hbe⟩ := hBk.elem hxi
    have c1 : decide ((i : Int) < (n : Int)) = true := decide_eq_true (by omega)
    have c2 : decide ((i : Int) < 30) = true := decide_eq_true (by omega)
    have e1 : (0 : Int) ≤ (i : Int) ∧ (i : Int) < (n : Int) := by omega
    have d2 : wrapF .i64 ((i : Int).tdiv 2) = ((i / 2 : Nat) : Int) := by rw [show (2 : Int) = ((2 : Nat) : Int) from rfl, tdivN, wrap_i64 (by omega)]
    have z2 : ((2 : Int) = 0) = False := by simp
    have w1 : wrapF .i64 (x : Int) = (x : Int) := wrap_i64 (by omega)
    have m4 : (x : Int).tmod 4 = ((x % 4 : Nat) : Int) := tmodN x 4
    have z4 : ((4 : Int) = 0) = False := by simp
    have w2 : wrapF .i64 (((i / 2 : Nat) : Int) + ((x % 4 : Nat) : Int)) = ((i / 2 + x % 4 : Nat) : Int) := by rw [wrap_i64 (by omega)]; omega
    have hmin : (if (n : Int) < ((i / 2 + x % 4 : Nat) : Int) then (n : Int) else ((i / 2 + x % 4 : Nat) : Int)) = ((min (i / 2 + x % 4) n : Nat) : Int) := by split <;> omega
    have l1 : min (i / 2 + x % 4) n ≤ n := Nat.min_le_right _ _
    have l2 : i / 2 ≤ min (i / 2 + x % 4) n := by omega
    simp -implicitDefEqProofs (maxDischargeDepth := 15) only [↓reduceIte, Yr, Ys, Yt, Yv, Yz, Wb, Wc, Wd, Wg, Wj, Wk, Wl, Wm, Wo, opA, Wv, Ww, Wx, Wy, Wz, Za, Zb, Vb, partA, Zh, Zi, binA, and_self, true_and, Zz, Ya, reduceCtorEq, Yf, natOf, upTo, bMax, bHigh, bLow, boundsA, evO, Yi, againOk, Vu, Vv, Yj, eq_self, or_true, Yp, c57_0, c57_1, c57_33, c57_34, c57_35, c57_36, c57_37, c2, e1, hg, hbe, d2, z2, w1, m4, z4, w2, minA, hmin, l1, l2, Nat.mul_one]
    have hBc := hBk.cut l2 l1
    simp only [Option.map_some] at hBc
    refine (builtN_ok hBc (fun y hy => hx y (List.mem_of_mem_take (List.mem_of_mem_drop hy)))).mono ?_
    rintro u σ2 ⟨xs, rfl, hD, hG2⟩
    have hpf : pForm l i x = built ((l.take (min (i / 2 + x % 4) n)).drop (i / 2)) := by unfold pForm; rw [hlen]
    rw [← hpf] at hD
    obtain ⟨fo, fn, fa, fl, ef⟩ := form_is (pForm l i x)
    have hD0 := hD
    rw [ef] at hD0
    have hD1 := hD0
    obtain ⟨o1, q1, z1, o2, q2, z2', rfl, _, _⟩ := F.cells hD1
    have d4 : wrapF .u8 ((x : Int).tdiv 4) = ((x / 4 : Nat) : Int) := by rw [show (4 : Int) = ((4 : Nat) : Int) from rfl, tdivN, wrap_u8 (by omega)]
    have w4 : wrapF .i64 ((x / 4 : Nat) : Int) = ((x / 4 : Nat) : Int) := wrap_i64 (by omega)
    have m5 : ((x / 4 : Nat) : Int).tmod 5 = ((x / 4 % 5 : Nat) : Int) := tmodN _ 5
    have z5 : ((5 : Int) = 0) = False := by simp
    simp -implicitDefEqProofs (maxDischargeDepth := 15) only [↓reduceIte, Yr, Ys, Yt, Wj, Wk, Wo, Wu, opA, Wv, Ww, Wx, Wy, Wz, Va, Za, Zb, Zd, Ze, Vb, Vc, Vd, Ve, AV.cells, Vg, Vn, Zf, Zg, Nat.reduceAdd, Zj, Zk, Zn, Zp, Zs, binA, putL, allOne, Zu, Zv, AV.one, Zy, and_self, eq_self, c57_32, d4, w4, m5, z4, z5]
    have hS2 := (hS.grow hG2).push (.cells [.int .u8 fo, .str fn, .slice o1 fa.length q1 z1, .slice o2 fl.length q2 z2'] true)
    have hel := hS.el
    refine pswitch_ok (l := l) (fp := σ2.next) hx8 (by omega) hS2 hsi Vg ef (DAtL.sub (fun j b q => ?_) _ _ hD0) ⟨rfl, rfl, rfl, rfl, rfl, rfl, rfl, rfl, rfl, rfl, rfl, rfl, rfl⟩ ?_
    · obtain ⟨h1, h2⟩ := newer_some q
      exact but_mk (fun w => by have := (hS.keep_lt w).2; omega) (sub_push hG2.wf _ _ _ h2) (by omega)
    · intro ts' σ3 so' sn' sc' sz' cs' v5 v6 v7 v8 v9 v10 v11 v12 hL' hS' hsn'
      obtain ⟨a, rfl⟩ := hL'.open
      have w6 : wrapF .i64 ((i : Int) + 1) = ((i + 1 : Nat) : Int) := by rw [wrap_i64 (by omega)]; rfl
      simp -implicitDefEqProofs (maxDischargeDepth := 15) only [↓reduceIte, Yr, Ys, Yt, Wj, Wo, Wr, opA, Wv, Ww, Wx, Wy, Wz, Za, Zb, Vb, binA, eq_self, w6, lk_n]
      refine ⟨m - 1, by omega, i + 1, so', sn', sc', sz', cs', _, _, _, _, _, _, _, _, ?_, by omega, by omega, by omega, rfl, rfl, rfl, rfl, rfl, rfl, rfl, rfl, rfl, rfl, rfl, rfl, rfl⟩
      have : l.getD i 0 = x := by simp [List.getD, hxi]
      show Stq _ _ _ _ _ _ _ (pStep l (provedS l i) i (l.getD i 0)) _
      rw [this]
      exact hS'
  · have him' : i = min l.length 30 := by omega
    have hpr : proved l = match (provedS l i).getLast? with | some p => p | none => .mk [] (.mk 2 [] [] []) 1 [] [] := by rw [him']; rfl
    have hWs := hS.grown.wf
    have h2 : σ'.get σ.next = some (.cells zeroP true) := hS.grown.keep _ _ Vg
    have h2l := hWs.lt h2
    have hGr : Grow σ σ' := ⟨Nat.le_of_succ_le hS.grown.le, fun i b e => hS.grown.keep i b (sub_push hW _ i b e), hWs⟩
    have hdec : (decide ((i : Int) < (n : Int)) = true ∧ decide ((i : Int) < 30) = false) ∨ decide ((i : Int) < (n : Int)) = false := by
      rcases Nat.lt_or_ge i n with q | q
      · exact .inl ⟨decide_eq_true (by omega), decide_eq_false (by omega)⟩
      · exact .inr (decide_eq_false (by omega))
    have htail : ∀ (ts : List AV), PLive ts (.slice o n none z) (.ptr (some (σ.next, 0))) (.slice so sn sc sz) (.int .i64 i) v5 v6 v7 v8 v9 v10 v11 v12 → wpC RR Tryz.prog c57_45 ts σ' (EndOk [(2, some (some 8))] (fun u σ' => ∃ xs, u = .agg xs ∧ DAtL (newer σ σ') (proved l).dv xs ∧ Grow σ σ')) := by
      intro ts hL
      obtain ⟨a, rfl⟩ := hL.open
      by_cases hs0 : sn = 0
      · subst hs0
        have hnil : provedS l i = [] := List.length_eq_zero_iff.1 hSl
        rw [hnil] at hpr
        simp -implicitDefEqProofs (maxDischargeDepth := 15) only [↓reduceIte, Yr, Ys, Yt, Yz, Wb, Wj, Wk, Wl, Wo, opA, Wv, Ww, Wx, Wy, Wz, Za, Zb, Vb, Zh, Zi, binA, eq_self, c57_40, c57_41, c57_42, c57_43, c57_44, c57_45, show (((0 : Nat) : Int) == 0) = true from rfl]
        refine RunV.to (law_join_ok _ _ _ _ _ _) ?_
        simp -implicitDefEqProofs (maxDischargeDepth := 15) only [Wb, Wu, Wv, Ww, Wx, Wy, Wz, Za, Zb, Zh, Zi]
        refine RunV.to (leaf_ok _ _ _ _ _ _ _ _ _ _ _ _) ?_
        simp -implicitDefEqProofs (maxDischargeDepth := 15) only [↓reduceIte, Yr, Ys, Yt, Wh, Wo, Wq, Wu, opA, Wv, Wx, Wy, Wz, Va, Za, Zb, Zd, Ze, Vb, Vc, Ve, AV.cells, Vh, Vj, Vk, partA, Zf, Zg, Nat.reduceAdd, Zj, Zk, Zm, Zn, Zo, Zp, Zs, Zt, putL, allOne, Zu, Zv, AV.one, Zy, and_self, EndOk, resultA, oneOf, eq_self, h2, h2l]
        rw [hpr]
        refine ⟨_, rfl, pdat (r := []) (n := 1) (fdat (dat_nil _ 3) (dat_nil _ 4)) (dat_nil _ 8) (dat_nil _ 1), (((hGr.push _).push _).push _).set hW (Nat.le_refl _) (by simp only [AState.push_next]; omega) _⟩
      · have c0 : ((sn : Int) == 0) = false := by simp only [beq_eq_false_iff_ne]; omega
        obtain ⟨p, hp⟩ : ∃ p, (provedS l i)[sn - 1]? = some p := ⟨(provedS l i)[sn - 1]'(by omega), List.getElem?_eq_getElem _⟩
        have hlast : (provedS l i).getLast? = some p := by rw [List.getLast?_eq_getElem?, hSl]; exact hp
        rw [hlast] at hpr
        obtain ⟨rfl, is, xs, rfl, hgs, hl8, hxs, hdp⟩ := hS.elem hp
        have hisl := hS.grown.wf.lt hgs
        obtain ⟨pr, pf, pn, psl, pm, ep⟩ := proof_is p
        obtain ⟨fo', fn', fa', fl', ef⟩ := form_is pf
        subst ef
        have hdp0 := hdp
        rw [ep] at hdp
        obtain ⟨p1, q1, y1, p2, q2, y2, p3, q3, y3, p4, q4, y4, rfl, _, _, _⟩ := Pf.cells hdp
        have w1 : wrapF .i64 ((sn : Int) - 1) = ((sn - 1 : Nat) : Int) := by rw [wrap_i64 (by omega)]; omega
        have e1 : (0 : Int) ≤ ((sn - 1 : Nat) : Int) ∧ ((sn - 1 : Nat) : Int) < (sn : Int) := by omega
        simp -implicitDefEqProofs (maxDischargeDepth := 15) only [↓reduceIte, Yr, Ys, Yt, Wa, Wg, Wh, Wj, Wk, Wl, Wo, opA, Wv, Ww, Wx, Wy, Wz, Va, Za, Zb, Zd, Ze, Vb, Vc, Ve, AV.cells, Vk, partA, Zf, Zg, Nat.reduceAdd, Zj, Zk, Zm, Zn, Zo, Zp, Zs, Zt, binA, putL, allOne, Zu, Zv, AV.one, Zy, and_self, EndOk, resultA, oneOf, Yf, eq_self, c57_40, c57_41, c57_42, c57_43, c57_44, c57_45, c0, w1, e1, hgs, hl8, hxs, h2]
        rw [hpr]
        refine ⟨_, rfl, DAtL.sub (fun j b q => ?_) _ _ hdp0, hGr.set hW (Nat.le_refl _) h2l _⟩
        obtain ⟨q1, q2, q3⟩ := but_some q
        refine newer_mk (by omega) ?_
        rw [Vl (by omega)]; exact q2
    rcases hdec with ⟨c1, c2⟩ | c1
    · simp -implicitDefEqProofs (maxDischargeDepth := 15) only [↓reduceIte, Yr, Ys, Yt, Yv, Wa, Wd, Wi, Wj, Wk, Wl, Wo, Wp, Ws, opA, Wv, Ww, Wx, Wy, Wz, Za, Zb, Vb, binA, Vu, Vv, Yj, eq_self, c57_0, c57_1, c57_2, c57_3, c57_4, c57_5, c57_6, c57_7, c57_8, c57_9, c57_10, c57_11, c57_12, c57_13, c57_14, c57_15, c57_16, c57_17, c57_18, c57_19, c57_20, c57_21, c57_22, c57_23, c57_24, c57_25, c57_26, c57_27, c57_28, c57_29, c57_30, c57_31, c57_32, c57_33, c57_34, c57_35, c57_36, c57_37, c1, c2, lk_e]
      exact htail _ ⟨rfl, rfl, rfl, rfl, rfl, rfl, rfl, rfl, rfl, rfl, rfl, rfl, rfl⟩
    · simp -implicitDefEqProofs (maxDischargeDepth := 15) only [↓reduceIte, Yr, Ys, Yt, Yw, Wa, Wd, Wi, Wj, Wk, Wl, Wo, Wp, Ws, opA, Wv, Ww, Wx, Wy, Wz, Za, Zb, Vb, binA, Yd, Vu, Vv, eq_self, Vx, c57_0, c57_1, c57_2, c57_3, c57_4, c57_5, c57_6, c57_7, c57_8, c57_9, c57_10, c57_11, c57_12, c57_13, c57_14, c57_15, c57_16, c57_17, c57_18, c57_19, c57_20, c57_21, c57_22, c57_23, c57_24, c57_25, c57_26, c57_27, c57_28, c57_29, c57_30, c57_31, c57_32, c57_33, c57_34, c57_35, c57_36, c57_37, c1, lk_e]
      exact htail _ ⟨rfl, rfl, rfl, rfl, rfl, rfl, rfl, rfl, rfl, rfl, rfl, rfl, rfl⟩
end Go.Am
namespace Go.Am
open Go.RowKit Go.Proofs Do
set_option maxRecDepth 100000
mutual
theorem sane_of_tiny : ∀ f : F, f.tiny → f.nodes ≤ 1000000 → f.sane
  | .mk op n ar l, h, hn => by
    simp only [F.tiny] at h
    simp only [F.nodes] at hn
    simp only [F.sane]
    have hl : ∀ (m : Nat) (l : List T), T.cnts l ≤ m → T.tinys l → T.lens l ≤ T.cnts l := by
      intro m
      induction m with
      | zero =>
        intro l h _
        cases l with
        | nil => simp [T.lens, T.cnts]
        | cons a r => cases a; simp only [T.cnts, T.cnt] at h; omega
      | succ m ih =>
        intro l h ht
        cases l with
        | nil => simp [T.lens, T.cnts]
        | cons a r =>
          obtain ⟨v, nm, ar2⟩ := a
          simp only [T.cnts, T.cnt] at h
          simp only [T.tinys, T.tiny] at ht
          have h1 := ih ar2 (by omega) ht.1.2
          have h2 := ih r (by omega) ht.2
          have h3 := ht.1.1
          simp only [T.lens, T.len, T.cnts, T.cnt]; omega
    have := hl _ ar (Nat.le_refl _) h.2.2.1
    exact ⟨h.1, by omega, by omega, sanes_of_tiny l h.2.2.2 (by omega)⟩
theorem sanes_of_tiny : ∀ l : List F, F.tinys l → F.nodess l ≤ 1000000 → F.sanes l
  | [], _, _ => trivial
  | f :: r, h, hn => by
    simp only [F.tinys] at h
    simp only [F.nodess] at hn
    exact ⟨sane_of_tiny f h.1 (by omega), sanes_of_tiny r h.2 (by omega)⟩
end
theorem right_sizes {f : F} (h : f.right = true) : f.nodes ≤ 400 ∧ f.depth ≤ 40 := by
  simp only [F.right, Bool.and_eq_true, decide_eq_true_eq] at h
  exact h.1
theorem Ps.elem {g : Mem} {o : Option (Nat × Nat)} {n z : Nat} {l : List Pf} (h : Ps g o n z l) {k : Nat} {t : Pf} (ht : l[k]? = some t) :
    z = 8 ∧ ∃ i off cs w, o = some (i, off) ∧ g i = some (.cells cs w) ∧ off + k * 8 + 8 ≤ cs.length ∧ ∃ xs, (cs.drop (off + k * 8)).take 8 = xs ∧ DAtL g t.dv xs := by
  obtain ⟨a, b, c⟩ := h
  have hk : k < l.length := by
    rcases Nat.lt_or_ge k l.length with q | q
    · exact q
    · rw [List.getElem?_eq_none q] at ht; cases ht
  have hn : n ≠ 0 := by omega
  refine ⟨b.resolve_left hn, ?_⟩
  obtain ⟨i, off, cs, w, xs, h1, h2, h3, rfl, h5⟩ := c.resolve_left hn
  refine ⟨i, off, cs, w, h1, h2, by omega, _, rfl, ?_⟩
  have := (h5.drop (k * 8)).take 8
  rw [Pf.dvs_get l k t ht, List.drop_take, List.drop_drop, List.take_take, Nat.min_eq_left (by omega)] at this
  exact this
theorem Ms.elem {g : Mem} {o : Option (Nat × Nat)} {n z : Nat} {l : List (List Nat)} (h : Ms g o n z l) {k : Nat} {t : List Nat} (ht : l[k]? = some t) :
    z = 1 ∧ ∃ i off cs w, o = some (i, off) ∧ g i = some (.cells cs w) ∧ ∃ o' c' z', cs[off + k]? = some (.slice o' t.length c' z') ∧ Is g o' t.length z' t := by
  obtain ⟨a, b, c⟩ := h
  have hk : k < l.length := by
    rcases Nat.lt_or_ge k l.length with q | q
    · exact q
    · rw [List.getElem?_eq_none q] at ht; cases ht
  have hn : n ≠ 0 := by omega
  refine ⟨b.resolve_left hn, ?_⟩
  obtain ⟨i, off, cs, w, xs, h1, h2, h3, rfl, h5⟩ := c.resolve_left hn
  refine ⟨i, off, cs, w, h1, h2, ?_⟩
  have hk2 : (l.map mdv)[k]? = some (mdv t) := by rw [List.getElem?_map, ht]; rfl
  obtain ⟨v, hv, hd⟩ := h5.get hk2
  obtain ⟨o', c', z', rfl, hI⟩ := mdv_cells hd
  refine ⟨o', c', z', ?_, hI⟩
  rw [List.getElem?_take_of_lt (by omega), List.getElem?_drop] at hv
  exact hv
theorem Is.elem {g : Mem} {o : Option (Nat × Nat)} {n z : Nat} {l : List Nat} (h : Is g o n z l) {k x : Nat} (hx : l[k]? = some x) : z = 1 ∧ ∃ i off cs w, o = some (i, off) ∧ g i = some (.cells cs w) ∧ cs[off + k]? = some (.int .i64 x) := by
  obtain ⟨a, b, c⟩ := h
  have hk : k < l.length := by
    rcases Nat.lt_or_ge k l.length with q | q
    · exact q
    · rw [List.getElem?_eq_none q] at hx; cases hx
  have hn : n ≠ 0 := by omega
  refine ⟨b.resolve_left hn, ?_⟩
  obtain ⟨i, off, cs, w, h1, h2, h3, h4⟩ := c.resolve_left hn
  refine ⟨i, off, cs, w, h1, h2, ?_⟩
  have : ((cs.drop off).take n)[k]? = some (.int .i64 x) := by rw [h4, List.getElem?_map, hx]; rfl
  rw [List.getElem?_take_of_lt (by omega), List.getElem?_drop] at this
  exact this
theorem name_ev : ([[97, 110, 100, 73], [114, 50], [81]].all fun r => match evA n_describe_name [.str r] with | some (.bool true, _) => true | _ => false) = true := by kernel_rfl
theorem rname_ok {r : Str} (h : isRule r) (σ : AState) : RunF RR Tryz.prog n_describe_name [.str r] σ (fun u σ' => u = .bool true ∧ σ' = σ) := by
  have h1 := List.all_eq_true.1 name_ev r (by rcases h with rfl | rfl | rfl <;> simp)
  split at h1
  · rename_i τ e; exact evA_ok rfl rfl e σ
  · cases h1
theorem label_ok {n : Nat} (hn : n ≤ 999) (σ : AState) : RunF RR Tryz.prog n_describe_fitsS1 [.int .i64 n] σ (fun u σ' => u = .bool true ∧ σ' = σ) := by
  refine runF_intro hmx rf_describe_fitsS1 ?_
  have d1 : decide ((n : Int) ≥ 0) = true := decide_eq_true (by omega)
  have d2 : decide ((n : Int) ≤ 999) = true := decide_eq_true (by omega)
  simp -implicitDefEqProofs (maxDischargeDepth := 15) only [↓reduceIte, Yr, Ys, Yt, Yv, Wd, Wh, Wj, Wk, Wo, opA, Wv, Ww, Wx, Wy, Wz, Za, Zb, List.replicate, Zc, Zd, Ze, Vb, Zf, Zg, Nat.reduceSub, Zk, binA, and_self, EndOk, resultA, oneOf, Zz, Yg, Vu, Vv, Yj, eq_self, Yp, i_describe_fitsS1, c73_0, c73_1, d2]
theorem sizes_take {l : List Pf} {k : Nat} {t : Pf} (h : l[k]? = some t) : Pf.sizes (l.take (k + 1)) = Pf.sizes (l.take k) + t.size := by
  induction l generalizing k with
  | nil => simp at h
  | cons a r ih =>
    cases k with
    | zero => simp only [List.getElem?_cons_zero, Option.some.injEq] at h; subst h; simp [Pf.sizes]
    | succ k => simp only [List.getElem?_cons_succ] at h; simp only [List.take_succ_cons, Pf.sizes, ih h]; omega
theorem sizes_take_le {l : List Pf} {k : Nat} {t : Pf} (h : l[k]? = some t) : Pf.sizes (l.take k) + t.size ≤ Pf.sizes l := by
  rw [← sizes_take h]
  have : l = l.take (k + 1) ++ l.drop (k + 1) := (List.take_append_drop _ _).symm
  have h2 := psizes_append (l.take (k + 1)) (l.drop (k + 1))
  rw [← this] at h2; omega
theorem phighs_mem {l : List Pf} {p : Pf} (h : p ∈ l) : p.high ≤ Pf.highs l := by
  induction l with
  | nil => cases h
  | cons a r ih =>
    simp only [Pf.highs]
    rcases List.mem_cons.1 h with e | e
    · subst e; omega
    · have := ih e; omega
structure FLive (ts : List AV) (v1 v2 v3 v7 v88 v89 v90 : AV) : Prop where
  len : ts.length = 120
  t1 : ts.getD 1 U = v1
  t2 : ts.getD 2 U = v2
  t3 : ts.getD 3 U = v3
  t7 : ts.getD 7 U = v7
  t88 : ts.getD 88 U = v88
  t89 : ts.getD 89 U = v89
  t90 : ts.getD 90 U = v90
theorem FLive.open {ts : List AV} {v1 v2 v3 v7 v88 v89 v90 : AV} (h : FLive ts v1 v2 v3 v7 v88 v89 v90) : ∃ a : Nat → AV, ts = [a 0, v1, v2, v3, a 4, a 5, a 6, v7, a 8, a 9, a 10, a 11, a 12, a 13, a 14, a 15, a 16, a 17, a 18, a 19, a 20, a 21, a 22, a 23, a 24, a 25, a 26, a 27, a 28, a 29, a 30, a 31, a 32, a 33, a 34, a 35, a 36, a 37, a 38, a 39, a 40, a 41, a 42, a 43, a 44, a 45, a 46, a 47, a 48, a 49, a 50, a 51, a 52, a 53, a 54, a 55, a 56, a 57, a 58, a 59, a 60, a 61, a 62, a 63, a 64, a 65, a 66, a 67, a 68, a 69, a 70, a 71, a 72, a 73, a 74, a 75, a 76, a 77, a 78, a 79, a 80, a 81, a 82, a 83, a 84, a 85, a 86, a 87, v88, v89, v90, a 91, a 92, a 93, a 94, a 95, a 96, a 97, a 98, a 99, a 100, a 101, a 102, a 103, a 104, a 105, a 106, a 107, a 108, a 109, a 110, a 111, a 112, a 113, a 114, a 115, a 116, a 117, a 118, a 119] := by
  have h1 := list_range h.len
  refine ⟨fun i => ts.getD i U, ?_⟩
  rw [← h.t1, ← h.t2, ← h.t3, ← h.t7, ← h.t88, ← h.t89, ← h.t90]
  exact h1
set_option maxHeartbeats 4000000 in
theorem pfits_ok {lp : Nat} : ∀ (m : Nat) (p : Pf), p.size ≤ m → p.fit → ∀ (d left : Nat), d + p.high ≤ 41 → p.size ≤ left → left ≤ 300 → ∀ (σ : AState) (g : Mem) (xs : List AV), σ.get lp = some (.cells [.int .i64 left] true) → Sub g σ.get → g lp = none → DAtL g p.dv xs →
    RunF RR Tryz.prog n_describe_fits [.agg xs, .int .i64 d, .ptr (some (lp, 0))] σ (fun u σ' => u = .bool true ∧ σ'.get lp = some (.cells [.int .i64 ((left - p.size : Nat) : Int)] true) ∧ Kept (fun j => j = lp) σ σ') := by
  intro m
  induction m using Nat.strongRecOn with
  | _ m ih =>
  intro p hpm hfit d left hd hleft hl300 σ g xs hlp hg0 hgl hD
  refine RunV.wf fun hW => ?_
  refine runF_intro hmx rf_describe_fits ?_
  obtain ⟨r, f, n, s, ms, ep⟩ := proof_is p
  obtain ⟨fo, fn, fa, fl, ef⟩ := form_is f
  subst ep
  have hfit0 := hfit
  rw [Pf.fit] at hfit
  obtain ⟨hr, ht, hcase, hsub⟩ := hfit
  have hfsz := right_sizes hr
  have hsane := sane_of_tiny f ht (by omega)
  subst ef
  obtain ⟨o1, c1, z1, o2, c2, z2, o3, c3, z3, o4, c4, z4, rfl, hFd, hP, hM⟩ := Pf.cells hD
  simp only [Pf.size] at hpm hleft ⊢
  simp only [Pf.high] at hd
  have hlpl := hW.lt hlp
  have hpos : (Pf.mk r (.mk fo fn fa fl) n s ms).size = 1 + Pf.sizes s := rfl
  have w1 : wrapF .i64 ((left : Int) - 1) = ((left - 1 : Nat) : Int) := by rw [wrap_i64 (by omega)]; omega
  have d1 : decide (((left - 1 : Nat) : Int) < 0) = false := decide_eq_false (by omega)
  have d2 : decide ((d : Int) > 40) = false := decide_eq_false (by omega)
  have hslen : s.length ≤ 4 := by rcases hcase with ⟨_, h, _⟩ | ⟨_, h, _⟩ | ⟨_, _, h, _⟩ <;> simp_all
  have hmlen : ms.length = s.length := by rcases hcase with ⟨_, h, h', _⟩ | ⟨_, h, h', _⟩ | ⟨_, _, _, h, _⟩ <;> simp_all
  have d3 : decide ((s.length : Int) > 4) = false := decide_eq_false (by omega)
  have d4 : ((ms.length : Int) != (s.length : Int)) = false := by rw [hmlen]; simp
  have hfx : ∀ (b : ABlk), (((σ.push (.cells [.str r, .int .u8 fo, .str fn, .slice o1 fa.length c1 z1, .slice o2 fl.length c2 z2, .int .i64 n, .slice o3 s.length c3 z3, .slice o4 ms.length c4 z4] true)).set lp (.cells [.int .i64 ((left - 1 : Nat) : Int)] true)).push b).get (σ.push (.cells [.str r, .int .u8 fo, .str fn, .slice o1 fa.length c1 z1, .slice o2 fl.length c2 z2, .int .i64 n, .slice o3 s.length c3 z3, .slice o4 ms.length c4 z4] true)).next = some b := fun b => Vg (σ := (σ.push (.cells [.str r, .int .u8 fo, .str fn, .slice o1 fa.length c1 z1, .slice o2 fl.length c2 z2, .int .i64 n, .slice o3 s.length c3 z3, .slice o4 ms.length c4 z4] true)).set lp (.cells [.int .i64 ((left - 1 : Nat) : Int)] true))
  have hfs : ∀ (b c : ABlk), (((σ.push (.cells [.str r, .int .u8 fo, .str fn, .slice o1 fa.length c1 z1, .slice o2 fl.length c2 z2, .int .i64 n, .slice o3 s.length c3 z3, .slice o4 ms.length c4 z4] true)).set lp (.cells [.int .i64 ((left - 1 : Nat) : Int)] true)).push b).set (σ.push (.cells [.str r, .int .u8 fo, .str fn, .slice o1 fa.length c1 z1, .slice o2 fl.length c2 z2, .int .i64 n, .slice o3 s.length c3 z3, .slice o4 ms.length c4 z4] true)).next c = ((σ.push (.cells [.str r, .int .u8 fo, .str fn, .slice o1 fa.length c1 z1, .slice o2 fl.length c2 z2, .int .i64 n, .slice o3 s.length c3 z3, .slice o4 ms.length c4 z4] true)).set lp (.cells [.int .i64 ((left - 1 : Nat) : Int)] true)).push c := fun b c => Vn (σ := (σ.push (.cells [.str r, .int .u8 fo, .str fn, .slice o1 fa.length c1 z1, .slice o2 fl.length c2 z2, .int .i64 n, .slice o3 s.length c3 z3, .slice o4 ms.length c4 z4] true)).set lp (.cells [.int .i64 ((left - 1 : Nat) : Int)] true))
  have hW1 := hW.push (.cells [.str r, .int .u8 fo, .str fn, .slice o1 fa.length c1 z1, .slice o2 fl.length c2 z2, .int .i64 n, .slice o3 s.length c3 z3, .slice o4 ms.length c4 z4] true)
  have hW2 : ((σ.push (.cells [.str r, .int .u8 fo, .str fn, .slice o1 fa.length c1 z1, .slice o2 fl.length c2 z2, .int .i64 n, .slice o3 s.length c3 z3, .slice o4 ms.length c4 z4] true)).set lp (.cells [.int .i64 ((left - 1 : Nat) : Int)] true)).Wf := hW1.set (Vj hlpl) _
  have hK2 : Kept (fun j => j = lp) σ ((σ.push (.cells [.str r, .int .u8 fo, .str fn, .slice o1 fa.length c1 z1, .slice o2 fl.length c2 z2, .int .i64 n, .slice o3 s.length c3 z3, .slice o4 ms.length c4 z4] true)).set lp (.cells [.int .i64 ((left - 1 : Nat) : Int)] true)) := ((Kept.refl hW).push _).set (Own := fun j => j = lp) rfl (Vj hlpl) _
  have hK3 := hK2.push (.cells [.func (.func n_describe_fitsS1) [] []] true)
  have hlp3 : (((σ.push (.cells [.str r, .int .u8 fo, .str fn, .slice o1 fa.length c1 z1, .slice o2 fl.length c2 z2, .int .i64 n, .slice o3 s.length c3 z3, .slice o4 ms.length c4 z4] true)).set lp (.cells [.int .i64 ((left - 1 : Nat) : Int)] true)).push (.cells [.func (.func n_describe_fitsS1) [] []] true)).get lp = some (.cells [.int .i64 ((left - 1 : Nat) : Int)] true) := by rw [Vh (by show lp < σ.next + 1; omega), Vk]
  have hb3 : (((σ.push (.cells [.str r, .int .u8 fo, .str fn, .slice o1 fa.length c1 z1, .slice o2 fl.length c2 z2, .int .i64 n, .slice o3 s.length c3 z3, .slice o4 ms.length c4 z4] true)).set lp (.cells [.int .i64 ((left - 1 : Nat) : Int)] true)).push (.cells [.func (.func n_describe_fitsS1) [] []] true)).get σ.next = some (.cells [.str r, .int .u8 fo, .str fn, .slice o1 fa.length c1 z1, .slice o2 fl.length c2 z2, .int .i64 n, .slice o3 s.length c3 z3, .slice o4 ms.length c4 z4] true) := by rw [Vh (by show σ.next < σ.next + 1; omega), Vl (by omega), Vg]
  have hf3 := hfx (.cells [.func (.func n_describe_fitsS1) [] []] true)
  simp -implicitDefEqProofs (maxDischargeDepth := 15) only [↓reduceIte, Yr, Ys, Yt, Wj, Wk, Wm, Wo, opA, Wv, Ww, Wx, Wy, Wz, Va, Za, Zb, List.replicate, Zc, Zd, Ze, Vb, Vc, Vd, Ve, AV.cells, Vh, AState.set_next, partA, Zf, Zg, Nat.reduceAdd, Nat.reduceSub, Zj, Zk, Zn, Zp, Zq, Zs, binA, putL, allOne, Zu, Zv, AV.one, Zy, and_self, eq_self, i_describe_fits, c58_26, c58_27, c58_28, c58_29, c58_30, c58_31, c58_32, hlp, hlpl, w1, hfx, hfs]
  generalize ((σ.push (.cells [.str r, .int .u8 fo, .str fn, .slice o1 fa.length c1 z1, .slice o2 fl.length c2 z2, .int .i64 n, .slice o3 s.length c3 z3, .slice o4 ms.length c4 z4] true)).set lp (.cells [.int .i64 ((left - 1 : Nat) : Int)] true)).push (.cells [.func (.func n_describe_fitsS1) [] []] true) = σ3 at *
  generalize (σ.push (.cells [.str r, .int .u8 fo, .str fn, .slice o1 fa.length c1 z1, .slice o2 fl.length c2 z2, .int .i64 n, .slice o3 s.length c3 z3, .slice o4 ms.length c4 z4] true)).next = fp at *
  have hfree : Free (fun j => j = lp) g := fun j b e q => by rw [q, hgl] at e; cases e
  have hg3 := hK3.sub hfree hg0
  have hlp3l := hK3.wf.lt hlp3
  have hb3l := hK3.wf.lt hb3
  have hf3l := hK3.wf.lt hf3
  simp -implicitDefEqProofs (maxDischargeDepth := 15) only [↓reduceIte, Ys, Yt, Yv, Wb, Wd, We, Wj, Wk, opA, Wv, Ww, Wx, Wy, Wz, Za, Zb, Vb, partA, Zf, Zg, Zh, Zi, Nat.reduceAdd, Nat.reduceLeDiff, Zk, Zm, Zn, Zo, Zp, Zq, binA, Yd, Vu, Vv, Yj, eq_self, c58_0, c58_1, c58_2, c58_3, c58_4, c58_5, c58_6, c58_7, c58_8, c58_9, c58_10, c58_11, c58_12, c58_13, c58_14, hlp3, hb3, d1, d2]
  refine RunV.to (right_ok (.mk fo fn fa fl) (by omega) hsane _ _ (DAtL.sub hg3 _ _ hFd)) ?_
  rw [hr]
  rcases hcase with ⟨rfl, rfl, rfl, hn1, hn2⟩ | ⟨rfl, rfl, rfl, rfl⟩ | ⟨hrule, rfl, _, hml, hms⟩
  · have q1 : ((([] : List Pf).length : Int) == 0) = true := rfl
    have q2 : ((n : Int) != 0) = true := by simp only [bne_iff_ne, ne_eq]; omega
    have d4' : ((([] : List (List Nat)).length : Int) != (([] : List Pf).length : Int)) = false := rfl
    simp -implicitDefEqProofs (maxDischargeDepth := 15) only [↓reduceIte, Yr, Ys, Yt, Yv, Yz, Wa, Wb, Wd, We, Wj, Wk, Wl, Wo, Wu, opA, Wv, Ww, Wx, Wy, Wz, Za, Zb, Vb, partA, Zg, Zh, Zi, Zk, Zl, Zq, Zr, binA, Yb, Yd, Vu, Vv, Yj, Yk, eq_self, hb3, hf3, q2, show decide (((0 : Nat) : Int) > 4) = false from rfl, show (((0 : Nat) : Int) == 0) = true from rfl]
    refine RunV.to (label_ok hn2 _) ?_
    simp -implicitDefEqProofs (maxDischargeDepth := 15) only [↓reduceIte, Yr, Ys, Yt, Wh, Wo, Wq, Wt, Wu, opA, Wv, Wx, Wy, Wz, Za, Zb, Vb, true_and, EndOk, resultA, oneOf, Zz, eq_self]
    exact ⟨by simpa [Pf.sizes] using hlp3, hK3⟩
  · have d4' : ((([] : List (List Nat)).length : Int) != (([] : List Pf).length : Int)) = false := rfl
    have r0 : (([63] : Str) == []) = false := rfl
    simp -implicitDefEqProofs (maxDischargeDepth := 15) only [↓reduceIte, Yr, Ys, Yt, Yv, Yz, Wa, Wd, Wh, Wj, Wk, Wl, Wo, Wq, Wt, Wu, opA, Wv, Ww, Wx, Wy, Wz, Za, Zb, Vb, partA, Zg, Zk, Zl, Zq, Zr, binA, true_and, EndOk, resultA, oneOf, Zz, Yb, Yd, Vu, Vv, Yj, Yk, eq_self, hb3, r0, show decide (((0 : Nat) : Int) > 4) = false from rfl, show (((0 : Nat) : Int) == 0) = true from rfl]
    exact ⟨by simpa [Pf.sizes] using hlp3, hK3⟩
  · have r0 : (r == []) = false := by rcases hrule with rfl | rfl | rfl <;> rfl
    have r1 : (r == [63]) = false := by rcases hrule with rfl | rfl | rfl <;> rfl
    simp -implicitDefEqProofs (maxDischargeDepth := 15) only [↓reduceIte, Yr, Ys, Yt, Yv, Wa, Wb, Wd, Wj, Wk, Wl, Wo, Wu, opA, Wv, Ww, Wx, Wy, Wz, Za, Zb, Vb, partA, Zh, Zi, Zk, Zl, Zq, Zr, binA, Yb, Yd, Vu, Vv, Yj, eq_self, hb3, d3, d4, r0, r1]
    refine RunV.to (rname_ok hrule _) ?_
    simp -implicitDefEqProofs (maxDischargeDepth := 15) only [↓reduceIte, Yr, Ys, Yt, Yv, Wa, Wd, Wg, Wj, Wk, Wl, Wm, Wo, Wr, Wu, opA, Wv, Ww, Wx, Wy, Wz, Za, Zb, Vb, partA, Zk, Zq, Zr, binA, Yb, Yd, Vu, Vv, Yj, eq_self, hb3, show (((0 : Nat) : Int) != 0) = false from rfl]
    show wpC RR Tryz.prog (.loop c58_24) _ _ _
    refine wp_loopK (fun ts σ' m => ∃ k : Nat, k + m = s.length ∧ σ'.get lp = some (.cells [.int .i64 ((left - 1 - Pf.sizes (s.take k) : Nat) : Int)] true) ∧ Kept (fun j => j = lp) σ3 σ' ∧
      FLive ts (.int .i64 d) (.ptr (some (lp, 0))) (.ptr (some (σ.next, 0))) (.ptr (some (fp, 0))) (.slice o3 s.length c3 z3) (.int .i64 s.length) (.int .i64 k)) s.length
      ⟨0, by omega, by simpa [Pf.sizes] using hlp3, Kept.refl hK3.wf, rfl, rfl, rfl, rfl, rfl, rfl, rfl, rfl⟩ ?_
    rintro m' ts σ' ⟨k, hkm, hlpk, hKk, hL⟩
    obtain ⟨a, rfl⟩ := hL.open
    by_cases hlt : k < s.length
    · obtain ⟨t, htk, htm⟩ := get_lt (l := s) (k := k) hlt
      obtain ⟨mk, hmk, hmm⟩ := get_lt (l := ms) (k := k) (by omega)
      have hgk := hKk.sub hfree hg3
      obtain ⟨rfl, ip, offp, csp, wp, rfl, hgp, hlp8, xsp, hxsp, hdp⟩ := hP.elem htk
      obtain ⟨rfl, im, offm, csm, wm, rfl, hgm, o', c', z', hcm, hIs⟩ := hM.elem hmk
      have hgp' := hgk _ _ hgp
      have hgm' := hgk _ _ hgm
      have hpl := hKk.wf.lt hgp'
      have hmll := hKk.wf.lt hgm'
      have hlplk := hKk.wf.lt hlpk
      have hne1 : σ.next ≠ lp := by omega
      have hbk := hKk.keep _ _ hne1 hb3
      have hfl3 : fp ≠ lp := by rintro rfl; rw [hf3] at hlp3; cases hlp3
      have hfk := hKk.keep _ _ hfl3 hf3
      have hbkl := hKk.wf.lt hbk
      have hfkl := hKk.wf.lt hfk
      obtain ⟨hml3, hmv⟩ := hms mk hmm
      obtain ⟨pr, pf, pn, psl, pm, ept⟩ := proof_is t
      obtain ⟨fo', fn', fa', fl', eft⟩ := form_is pf
      subst eft
      have hdp0 := hdp
      rw [ept] at hdp
      obtain ⟨p1, q1, y1, p2, q2, y2, p3, q3, y3, p4, q4, y4, rfl, _, _, _⟩ := Pf.cells hdp
      have e1 : (0 : Int) ≤ (k : Int) ∧ (k : Int) < (s.length : Int) := by omega
      have e2 : (0 : Int) ≤ (k : Int) ∧ (k : Int) < (ms.length : Int) := by omega
      have d5 : decide ((k : Int) < (s.length : Int)) = true := decide_eq_true (by omega)
      have d6 : decide ((mk.length : Int) > 3) = false := decide_eq_false (by omega)
      simp -implicitDefEqProofs (maxDischargeDepth := 15) only [↓reduceIte, Yr, Ys, Yt, Yv, Yz, Wb, Wd, We, Wg, Wj, Wk, Wl, Wm, Wo, opA, Wv, Ww, Wx, Wy, Wz, Va, Za, Zb, Zd, Ze, Vb, Vc, Vd, Ve, AV.cells, Vg, Vh, Vn, partA, Zf, Zg, Zh, Zi, Nat.reduceAdd, Zj, Zk, Zn, Zp, Zq, Zr, Zs, binA, putL, allOne, Zu, Zv, AV.one, Zy, and_self, Yf, Vu, Vv, Yj, eq_self, Yp, c58_15, c58_16, c58_17, c58_18, c58_19, c58_20, c58_21, c58_22, c58_23, c58_24, e1, e2, hgp', hlp8, hxsp, hbk, hbkl, hgm', hmll, hcm, d6, Nat.mul_one]
      refine RunV.to (containsFunc_ok hmx (sz := 1) (ld := none) rf_slices_ContainsFunc_int rf_slices_IndexFunc_int (xs := mk) (q := fun _ => false) rfl (by omega) hIs.2.1 fun j y hy => ?_) ?_
      · obtain ⟨rfl, ii, offi, csi, wi, rfl, hgi, hci⟩ := hIs.elem hy
        refine ⟨.int .i64 y, ⟨ii, offi, csi, wi, rfl, sub_push hKk.wf _ _ _ (hgk _ _ hgi), by simp only [partA, Nat.mul_one]; exact hci⟩, ?_⟩
        have hfk' := sub_push hKk.wf (.cells [.str pr, .int .u8 fo', .str fn', .slice p1 fa'.length q1 y1, .slice p2 fl'.length q2 y2, .int .i64 pn, .slice p3 psl.length q3 y3, .slice p4 pm.length q4 y4] true) _ _ hfk
        refine runF_intro hmx rf_describe_fitsS2 ?_
        simp -implicitDefEqProofs (maxDischargeDepth := 15) only [Yr, Ys, Yt, Wb, Wj, Wk, Wo, opA, Wv, Ww, Wx, Wy, Wz, Za, Zb, List.replicate, Zc, Zd, Vb, partA, Zf, Zg, Zh, Zi, Nat.reduceAdd, Nat.reduceSub, Zk, Zq, i_describe_fitsS2, c25_0, c25_1, c25_2, hfk']
        refine RunV.to (label_ok (hmv y (List.mem_of_getElem? hy)) _) ?_
        simp -implicitDefEqProofs (maxDischargeDepth := 15) only [Yr, Ys, Yt, Wh, Wo, Wu, opA, Wv, Wx, Wy, Wz, Za, Zb, Vb, and_self, EndOk, resultA, oneOf, Zz, Yb, eq_self]
      · have hany : mk.any (fun _ => false) = false := by simp
        rw [hany]
        have w2 : wrapF .i64 ((d : Int) + 1) = ((d + 1 : Nat) : Int) := by rw [wrap_i64 (by omega)]; rfl
        simp -implicitDefEqProofs (maxDischargeDepth := 15) only [↓reduceIte, Ys, Yt, Yv, Wb, Wd, We, Wu, opA, Wv, Ww, Wx, Wy, Wz, Za, Zb, Vb, Vg, partA, Zf, Zg, Zh, Zi, Nat.reduceAdd, Zj, Zk, Zm, Zo, Zt, binA, Yd, Vu, Vv, Yj, eq_self, w2]
        have hh := phighs_mem htm
        have hsz := sizes_take_le htk
        have hts : t.size ≤ Pf.sizes s := psize_mem htm
        rw [← ept] at *
        refine (ih t.size (by omega) t (Nat.le_refl _) (pfits_all.1 hsub t htm) (d + 1) (left - 1 - Pf.sizes (s.take k)) (by omega) (by omega) (by omega) _ g _ (sub_push hKk.wf _ _ _ hlpk) (hgk.trans (sub_push hKk.wf _)) hgl hdp0).mono ?_
        rintro u σ9 ⟨rfl, hlp9, hK9⟩
        have w6 : wrapF .i64 ((k : Int) + 1) = ((k + 1 : Nat) : Int) := by rw [wrap_i64 (by omega)]; rfl
        simp -implicitDefEqProofs (maxDischargeDepth := 15) only [↓reduceIte, Yr, Ys, Yt, Yv, Wa, Wd, Wg, Wj, Wl, Wo, Wr, Wu, opA, Wv, Ww, Wx, Wy, Wz, Za, Zb, Vb, binA, Yb, Yd, Vu, Vv, Yj, eq_self, w6, lk_n]
        refine ⟨m' - 1, by omega, k + 1, by omega, ?_, (hKk.push _).trans hK9, rfl, rfl, rfl, rfl, rfl, rfl, rfl, rfl⟩
        rw [hlp9, sizes_take htk]
        congr 4
        omega
    · have d5 : decide ((k : Int) < (s.length : Int)) = false := decide_eq_false (by omega)
      have htk : s.take k = s := List.take_of_length_le (by omega)
      rw [htk] at hlpk
      simp -implicitDefEqProofs (maxDischargeDepth := 15) only [↓reduceIte, Yr, Ys, Yt, Wa, Wh, Wi, Wj, Wk, Wl, Wo, Wp, Ws, opA, Wv, Ww, Wx, Wy, Wz, Za, Zb, Vb, binA, true_and, EndOk, resultA, oneOf, Zz, eq_self, c58_15, c58_16, c58_17, c58_18, c58_19, c58_20, c58_21, c58_22, c58_23, c58_24, d5, lk_e]
      refine ⟨?_, hK3.trans hKk⟩
      rw [hlpk]
      congr 4
      omega
theorem whole_ok {p : Pf} (hfit : p.fit) (hsz : p.size ≤ 40) (σ : AState) (xs : List AV) (hD : DAtL σ.get p.dv xs) : RunF RR Tryz.prog n_describe_whole [.agg xs] σ (fun u σ' => u = .bool true ∧ σ' = σ) := by
  refine RunV.wf fun hW => RunV.forget rfl ?_
  refine runF_intro hmx rf_describe_whole ?_
  have hl8 : 8 ≤ xs.length := by rw [hD.length, Pf.dv_len]; omega
  have ht8 : xs.take 8 = xs := List.take_of_length_le (by rw [hD.length, Pf.dv_len]; omega)
  have hh := Pf.high_size p
  simp -implicitDefEqProofs (maxDischargeDepth := 15) only [↓reduceIte, Yr, Ys, Yt, Wb, Wj, Wk, Wo, opA, Wv, Ww, Wx, Wy, Wz, Va, Za, Zb, List.replicate, Zc, Zd, Ze, Vb, Vc, Vd, Ve, AV.cells, Vg, Vh, Vi, Vn, partA, Zf, Zg, Zh, Zi, Nat.reduceSub, Zj, Zk, Zm, Zn, Zp, Zs, putL, allOne, Zu, Zv, AV.one, Zy, and_self, eq_self, i_describe_whole, c17_0, c17_1, c17_2, c17_3, hl8, ht8]
  have hnone : σ.get (σ.push (.cells xs true)).next = none := hW _ (by simp only [AState.push_next]; omega)
  refine (pfits_ok (lp := (σ.push (.cells xs true)).next) p.size p (Nat.le_refl _) hfit 0 300 (by omega) (by omega) (by omega) _ σ.get xs Vg ((sub_push hW _).trans (sub_push (hW.push _) _)) hnone hD).mono ?_
  rintro u σ9 ⟨rfl, _, hK9⟩
  simp -implicitDefEqProofs (maxDischargeDepth := 15) only [Yr, Ys, Yt, Wh, Wo, Wu, opA, Wv, Wx, Wy, Wz, Za, Zb, Vb, true_and, EndOk, resultA, oneOf, Zz, eq_self]
  intro i b e
  have := hW.lt e
  exact hK9.keep i b (by simp only [AState.push_next]; omega) (sub_push (hW.push _) _ i b (sub_push hW _ i b e))
end Go.Am
namespace Go.Am
open Go.RowKit Go.Proofs Do
set_option maxRecDepth 100000
abbrev pow10L : List AV := [.int .u64 1, .int .u64 10, .int .u64 100, .int .u64 1000, .int .u64 10000, .int .u64 100000, .int .u64 1000000, .int .u64 10000000, .int .u64 100000000, .int .u64 1000000000, .int .u64 10000000000, .int .u64 100000000000, .int .u64 1000000000000, .int .u64 10000000000000, .int .u64 100000000000000, .int .u64 1000000000000000, .int .u64 10000000000000000, .int .u64 100000000000000000, .int .u64 1000000000000000000, .int .u64 10000000000000000000]
theorem len8_all : ((List.range 256).all fun n => ([0, 1, 2, 2, 3, 3, 3, 3, 4, 4, 4, 4, 4, 4, 4, 4, 5, 5, 5, 5, 5, 5, 5, 5, 5, 5, 5, 5, 5, 5, 5, 5, 6, 6, 6, 6, 6, 6, 6, 6, 6, 6, 6, 6, 6, 6, 6, 6, 6, 6, 6, 6, 6, 6, 6, 6, 6, 6, 6, 6, 6, 6, 6, 6, 7, 7, 7, 7, 7, 7, 7, 7, 7, 7, 7, 7, 7, 7, 7, 7, 7, 7, 7, 7, 7, 7, 7, 7, 7, 7, 7, 7, 7, 7, 7, 7, 7, 7, 7, 7, 7, 7, 7, 7, 7, 7, 7, 7, 7, 7, 7, 7, 7, 7, 7, 7, 7, 7, 7, 7, 7, 7, 7, 7, 7, 7, 7, 7, 8, 8, 8, 8, 8, 8, 8, 8, 8, 8, 8, 8, 8, 8, 8, 8, 8, 8, 8, 8, 8, 8, 8, 8, 8, 8, 8, 8, 8, 8, 8, 8, 8, 8, 8, 8, 8, 8, 8, 8, 8, 8, 8, 8, 8, 8, 8, 8, 8, 8, 8, 8, 8, 8, 8, 8, 8, 8, 8, 8, 8, 8, 8, 8, 8, 8, 8, 8, 8, 8, 8, 8, 8, 8, 8, 8, 8, 8, 8, 8, 8, 8, 8, 8, 8, 8, 8, 8, 8, 8, 8, 8, 8, 8, 8, 8, 8, 8, 8, 8, 8, 8, 8, 8, 8, 8, 8, 8, 8, 8, 8, 8, 8, 8, 8, 8, 8, 8, 8, 8, 8, 8, 8, 8, 8, 8, 8, 8] : List UInt8)[n]? == some (if n = 0 then 0 else if n < 2 then 1 else if n < 4 then 2 else if n < 8 then 3 else if n < 16 then 4 else if n < 32 then 5 else if n < 64 then 6 else if n < 128 then 7 else 8)) = true := by kernel_rfl
theorem len8_at {n : Nat} (h : n < 256) : ([0, 1, 2, 2, 3, 3, 3, 3, 4, 4, 4, 4, 4, 4, 4, 4, 5, 5, 5, 5, 5, 5, 5, 5, 5, 5, 5, 5, 5, 5, 5, 5, 6, 6, 6, 6, 6, 6, 6, 6, 6, 6, 6, 6, 6, 6, 6, 6, 6, 6, 6, 6, 6, 6, 6, 6, 6, 6, 6, 6, 6, 6, 6, 6, 7, 7, 7, 7, 7, 7, 7, 7, 7, 7, 7, 7, 7, 7, 7, 7, 7, 7, 7, 7, 7, 7, 7, 7, 7, 7, 7, 7, 7, 7, 7, 7, 7, 7, 7, 7, 7, 7, 7, 7, 7, 7, 7, 7, 7, 7, 7, 7, 7, 7, 7, 7, 7, 7, 7, 7, 7, 7, 7, 7, 7, 7, 7, 7, 8, 8, 8, 8, 8, 8, 8, 8, 8, 8, 8, 8, 8, 8, 8, 8, 8, 8, 8, 8, 8, 8, 8, 8, 8, 8, 8, 8, 8, 8, 8, 8, 8, 8, 8, 8, 8, 8, 8, 8, 8, 8, 8, 8, 8, 8, 8, 8, 8, 8, 8, 8, 8, 8, 8, 8, 8, 8, 8, 8, 8, 8, 8, 8, 8, 8, 8, 8, 8, 8, 8, 8, 8, 8, 8, 8, 8, 8, 8, 8, 8, 8, 8, 8, 8, 8, 8, 8, 8, 8, 8, 8, 8, 8, 8, 8, 8, 8, 8, 8, 8, 8, 8, 8, 8, 8, 8, 8, 8, 8, 8, 8, 8, 8, 8, 8, 8, 8, 8, 8, 8, 8, 8, 8, 8, 8, 8, 8] : List UInt8)[n]? = some (if n = 0 then 0 else if n < 2 then 1 else if n < 4 then 2 else if n < 8 then 3 else if n < 16 then 4 else if n < 32 then 5 else if n < 64 then 6 else if n < 128 then 7 else 8) :=
  eq_of_beq (List.all_eq_true.1 len8_all n (by simpa using h))
theorem small_all : ((List.range 100).all fun n => ([48, 48, 48, 49, 48, 50, 48, 51, 48, 52, 48, 53, 48, 54, 48, 55, 48, 56, 48, 57, 49, 48, 49, 49, 49, 50, 49, 51, 49, 52, 49, 53, 49, 54, 49, 55, 49, 56, 49, 57, 50, 48, 50, 49, 50, 50, 50, 51, 50, 52, 50, 53, 50, 54, 50, 55, 50, 56, 50, 57, 51, 48, 51, 49, 51, 50, 51, 51, 51, 52, 51, 53, 51, 54, 51, 55, 51, 56, 51, 57, 52, 48, 52, 49, 52, 50, 52, 51, 52, 52, 52, 53, 52, 54, 52, 55, 52, 56, 52, 57, 53, 48, 53, 49, 53, 50, 53, 51, 53, 52, 53, 53, 53, 54, 53, 55, 53, 56, 53, 57, 54, 48, 54, 49, 54, 50, 54, 51, 54, 52, 54, 53, 54, 54, 54, 55, 54, 56, 54, 57, 55, 48, 55, 49, 55, 50, 55, 51, 55, 52, 55, 53, 55, 54, 55, 55, 55, 56, 55, 57, 56, 48, 56, 49, 56, 50, 56, 51, 56, 52, 56, 53, 56, 54, 56, 55, 56, 56, 56, 57, 57, 48, 57, 49, 57, 50, 57, 51, 57, 52, 57, 53, 57, 54, 57, 55, 57, 56, 57, 57] : List UInt8)[n * 2]? == some (UInt8.ofNat (48 + n / 10)) && ([48, 48, 48, 49, 48, 50, 48, 51, 48, 52, 48, 53, 48, 54, 48, 55, 48, 56, 48, 57, 49, 48, 49, 49, 49, 50, 49, 51, 49, 52, 49, 53, 49, 54, 49, 55, 49, 56, 49, 57, 50, 48, 50, 49, 50, 50, 50, 51, 50, 52, 50, 53, 50, 54, 50, 55, 50, 56, 50, 57, 51, 48, 51, 49, 51, 50, 51, 51, 51, 52, 51, 53, 51, 54, 51, 55, 51, 56, 51, 57, 52, 48, 52, 49, 52, 50, 52, 51, 52, 52, 52, 53, 52, 54, 52, 55, 52, 56, 52, 57, 53, 48, 53, 49, 53, 50, 53, 51, 53, 52, 53, 53, 53, 54, 53, 55, 53, 56, 53, 57, 54, 48, 54, 49, 54, 50, 54, 51, 54, 52, 54, 53, 54, 54, 54, 55, 54, 56, 54, 57, 55, 48, 55, 49, 55, 50, 55, 51, 55, 52, 55, 53, 55, 54, 55, 55, 55, 56, 55, 57, 56, 48, 56, 49, 56, 50, 56, 51, 56, 52, 56, 53, 56, 54, 56, 55, 56, 56, 56, 57, 57, 48, 57, 49, 57, 50, 57, 51, 57, 52, 57, 53, 57, 54, 57, 55, 57, 56, 57, 57] : List UInt8)[n * 2 + 1]? == some (UInt8.ofNat (48 + n % 10))) = true := by kernel_rfl
theorem small_at {n : Nat} (h : n < 100) : ([48, 48, 48, 49, 48, 50, 48, 51, 48, 52, 48, 53, 48, 54, 48, 55, 48, 56, 48, 57, 49, 48, 49, 49, 49, 50, 49, 51, 49, 52, 49, 53, 49, 54, 49, 55, 49, 56, 49, 57, 50, 48, 50, 49, 50, 50, 50, 51, 50, 52, 50, 53, 50, 54, 50, 55, 50, 56, 50, 57, 51, 48, 51, 49, 51, 50, 51, 51, 51, 52, 51, 53, 51, 54, 51, 55, 51, 56, 51, 57, 52, 48, 52, 49, 52, 50, 52, 51, 52, 52, 52, 53, 52, 54, 52, 55, 52, 56, 52, 57, 53, 48, 53, 49, 53, 50, 53, 51, 53, 52, 53, 53, 53, 54, 53, 55, 53, 56, 53, 57, 54, 48, 54, 49, 54, 50, 54, 51, 54, 52, 54, 53, 54, 54, 54, 55, 54, 56, 54, 57, 55, 48, 55, 49, 55, 50, 55, 51, 55, 52, 55, 53, 55, 54, 55, 55, 55, 56, 55, 57, 56, 48, 56, 49, 56, 50, 56, 51, 56, 52, 56, 53, 56, 54, 56, 55, 56, 56, 56, 57, 57, 48, 57, 49, 57, 50, 57, 51, 57, 52, 57, 53, 57, 54, 57, 55, 57, 56, 57, 57] : List UInt8)[n * 2]? = some (UInt8.ofNat (48 + n / 10)) ∧ ([48, 48, 48, 49, 48, 50, 48, 51, 48, 52, 48, 53, 48, 54, 48, 55, 48, 56, 48, 57, 49, 48, 49, 49, 49, 50, 49, 51, 49, 52, 49, 53, 49, 54, 49, 55, 49, 56, 49, 57, 50, 48, 50, 49, 50, 50, 50, 51, 50, 52, 50, 53, 50, 54, 50, 55, 50, 56, 50, 57, 51, 48, 51, 49, 51, 50, 51, 51, 51, 52, 51, 53, 51, 54, 51, 55, 51, 56, 51, 57, 52, 48, 52, 49, 52, 50, 52, 51, 52, 52, 52, 53, 52, 54, 52, 55, 52, 56, 52, 57, 53, 48, 53, 49, 53, 50, 53, 51, 53, 52, 53, 53, 53, 54, 53, 55, 53, 56, 53, 57, 54, 48, 54, 49, 54, 50, 54, 51, 54, 52, 54, 53, 54, 54, 54, 55, 54, 56, 54, 57, 55, 48, 55, 49, 55, 50, 55, 51, 55, 52, 55, 53, 55, 54, 55, 55, 55, 56, 55, 57, 56, 48, 56, 49, 56, 50, 56, 51, 56, 52, 56, 53, 56, 54, 56, 55, 56, 56, 56, 57, 57, 48, 57, 49, 57, 50, 57, 51, 57, 52, 57, 53, 57, 54, 57, 55, 57, 56, 57, 57] : List UInt8)[n * 2 + 1]? = some (UInt8.ofNat (48 + n % 10)) := by
  have := List.all_eq_true.1 small_all n (by simpa using h)
  simp only [Bool.and_eq_true] at this
  exact ⟨eq_of_beq this.1, eq_of_beq this.2⟩
theorem wrap_u64 {n : Int} (h : 0 ≤ n ∧ n ≤ 18446744073709551615) : wrapF .u64 n = n := by
  rw [wrapF_eq, IntKind.wrap_u64]; omega
theorem wrap_u32 {n : Int} (h : 0 ≤ n ∧ n ≤ 4294967295) : wrapF .u32 n = n := by
  rw [wrapF_eq, IntKind.wrap_u32]; omega
def lenB (n : Nat) : Nat := if n < 128 then 7 else if n < 256 then 8 else if n < 512 then 9 else 10
theorem len64_ok {n : Nat} (h1 : 100 ≤ n) (h2 : n < 1000) (σ : AState) : RunF RR Tryz.prog n_bits_Len64 [.int .u64 n] σ (fun u σ' => u = .int .i64 (lenB n) ∧ σ' = σ) := by
  refine runF_intro hmx rf_bits_Len64 ?_
  have d1 : decide ((n : Int) ≥ 4294967296) = false := decide_eq_false (by omega)
  have d2 : decide ((n : Int) ≥ 65536) = false := decide_eq_false (by omega)
  by_cases h3 : n < 256
  · have d3 : decide ((n : Int) ≥ 256) = false := decide_eq_false (by omega)
    have w1 : wrapF .u8 (n : Int) = (n : Int) := wrap_u8 (by omega)
    have hat := len8_at h3
    simp -implicitDefEqProofs (maxDischargeDepth := 15) only [↓reduceIte, Yr, Ys, Yt, Wa, Wg, Wh, Wj, Wk, Wl, Wo, opA, Wv, Ww, Wx, Wy, Wz, Za, Zb, List.replicate, Zc, Zd, Ze, Vb, Zf, Zg, Nat.reduceSub, Zk, binA, and_true, EndOk, resultA, oneOf, Zz, Yf, Yg, eq_self, i_bits_Len64, c3_0, c3_1, c3_2, c3_3, c3_4, c3_5, c3_6, c3_7, c3_8, c3_9, c3_10, c3_11, c3_12, c3_13, d1, d2, d3, w1, hat]
    unfold lenB
    by_cases h4 : n < 128
    · rw [if_neg (by omega), if_neg (by omega), if_neg (by omega), if_neg (by omega), if_neg (by omega), if_neg (by omega), if_neg (by omega), if_pos h4, if_pos h4]; rfl
    · rw [if_neg (by omega), if_neg (by omega), if_neg (by omega), if_neg (by omega), if_neg (by omega), if_neg (by omega), if_neg (by omega), if_neg h4, if_neg h4, if_pos h3]; rfl
  · have d3 : decide ((n : Int) ≥ 256) = true := decide_eq_true (by omega)
    have hs : (n : Int).fdiv (2 ^ (min (8 : Int).toNat IntKind.u64.bits)) = ((n / 256 : Nat) : Int) := by
      rw [show (2 : Int) ^ (min (8 : Int).toNat IntKind.u64.bits) = ((256 : Nat) : Int) from rfl, Int.fdiv_eq_ediv_of_nonneg _ (by omega)]; rfl
    have w1 : wrapF .u8 ((n / 256 : Nat) : Int) = ((n / 256 : Nat) : Int) := wrap_u8 (by omega)
    have hat := len8_at (n := n / 256) (by omega)
    have g0 : (0 : Int) ≤ 8 := by decide
    simp -implicitDefEqProofs (maxDischargeDepth := 15) only [↓reduceIte, Yr, Ys, Yt, Yz, Wa, Wg, Wh, Wj, Wk, Wl, Wo, opA, Wv, Ww, Wx, Wy, Wz, Za, Zb, List.replicate, Zc, Zd, Ze, Vb, Zf, Zg, Nat.reduceSub, Zk, binA, and_true, EndOk, resultA, oneOf, Zz, Yf, Yg, eq_self, i_bits_Len64, c3_0, c3_1, c3_2, c3_3, c3_4, c3_5, c3_6, c3_7, c3_8, c3_9, c3_10, c3_11, c3_12, c3_13, d1, d2, d3, hs, g0, w1, hat]
    have : n / 256 = 1 ∨ n / 256 = 2 ∨ n / 256 = 3 := by omega
    rcases this with e | e | e
    · rw [e, show lenB n = 9 by unfold lenB; rw [if_neg (by omega), if_neg (by omega), if_pos (by omega)]]; rfl
    · rw [e, show lenB n = 10 by unfold lenB; rw [if_neg (by omega), if_neg (by omega), if_neg (by omega)]]; rfl
    · rw [e, show lenB n = 10 by unfold lenB; rw [if_neg (by omega), if_neg (by omega), if_neg (by omega)]]; rfl
theorem log10_ev : ((List.range 11).all fun n => match evA n_istrconv_log10Pow2 [.int .i64 n] with | some (.int .i64 m, _) => m == (if n < 4 then 0 else if n < 7 then 1 else if n < 10 then 2 else 3) | _ => false) = true := by kernel_rfl
theorem log10_ok {n : Nat} (hn : n < 11) (σ : AState) : RunF RR Tryz.prog n_istrconv_log10Pow2 [.int .i64 n] σ (fun u σ' => u = .int .i64 (if n < 4 then 0 else if n < 7 then 1 else if n < 10 then 2 else 3) ∧ σ' = σ) := by
  have h := List.all_eq_true.1 log10_ev n (by simpa using hn)
  split at h
  · rename_i m τ e; rw [← eq_of_beq h]; exact evA_ok rfl rfl e σ
  · cases h
theorem bool2_ok (b : Bool) (σ : AState) : RunF RR Tryz.prog n_istrconv_bool2_int [.bool b] σ (fun u σ' => u = .int .i64 (if b then 1 else 0) ∧ σ' = σ) := by
  refine runF_intro hmx rf_istrconv_bool2_int ?_
  cases b
  · simp -implicitDefEqProofs (maxDischargeDepth := 15) only [↓reduceIte, Yr, Ys, Yt, Wa, Wg, Wh, Wj, Wk, Wl, Wo, opA, Wv, Ww, Wx, Wy, Wz, Za, Zb, List.replicate, Zc, Zd, Ze, Vb, Zf, Zg, Nat.reduceSub, Zk, and_self, EndOk, resultA, oneOf, Zz, Yd, eq_self, i_istrconv_bool2_int, c18_0, c18_1, c18_2, c18_3, c18_4]
  · simp -implicitDefEqProofs (maxDischargeDepth := 15) only [↓reduceIte, Yr, Ys, Yt, Yz, Wh, Wj, Wk, Wl, Wo, Wq, opA, Wv, Ww, Wx, Wy, Wz, Za, Zb, List.replicate, Zc, Zd, Ze, Vb, Zf, Zg, Nat.reduceSub, Zk, and_self, EndOk, resultA, oneOf, Zz, eq_self, i_istrconv_bool2_int, c18_0, c18_1, c18_2, c18_3, c18_4]
theorem numDigits_ok {n : Nat} (h1 : 100 ≤ n) (h2 : n < 1000) {σ : AState} {w : Bool} (hg : σ.get 1 = some (.cells pow10L w)) : RunF RR Tryz.prog n_istrconv_numDigits [.int .u64 n] σ (fun u σ' => u = .int .i64 3 ∧ σ' = σ) := by
  refine runF_intro hmx rf_istrconv_numDigits ?_
  simp -implicitDefEqProofs (maxDischargeDepth := 15) only [Yr, Ys, Yt, Wb, Wj, Wk, Wo, opA, Wv, Ww, Wx, Wy, Wz, Za, Zb, List.replicate, Zc, Zd, Ze, Vb, Zf, Zg, Zh, Zi, Nat.reduceSub, Zk, i_istrconv_numDigits, c14_0, c14_1, c14_2, c14_3, c14_4, c14_5]
  refine RunV.to (len64_ok h1 h2 _) ?_
  simp -implicitDefEqProofs (maxDischargeDepth := 15) only [Wb, Wu, Wv, Ww, Wx, Wy, Wz, Za, Zb, Zh, Zi]
  have hL : lenB n < 11 := by unfold lenB; repeat' split
                              all_goals omega
  refine RunV.to (log10_ok hL _) ?_
  have h3 : (n < 512 ∧ (if lenB n < 4 then 0 else if lenB n < 7 then 1 else if lenB n < 10 then 2 else 3 : Int) = 2) ∨ (512 ≤ n ∧ (if lenB n < 4 then 0 else if lenB n < 7 then 1 else if lenB n < 10 then 2 else 3 : Int) = 3) := by
    by_cases h : n < 512
    · refine .inl ⟨h, ?_⟩
      have : lenB n = 7 ∨ lenB n = 8 ∨ lenB n = 9 := by
        unfold lenB
        by_cases q1 : n < 128
        · rw [if_pos q1]; exact .inl rfl
        · rw [if_neg q1]
          by_cases q2 : n < 256
          · rw [if_pos q2]; exact .inr (.inl rfl)
          · rw [if_neg q2, if_pos h]; exact .inr (.inr rfl)
      rcases this with e | e | e <;> rw [e] <;> rfl
    · refine .inr ⟨by omega, ?_⟩
      rw [show lenB n = 10 by unfold lenB; rw [if_neg (by omega), if_neg (by omega), if_neg h]]; rfl
  have e2 : (0 : Int) ≤ 2 ∧ (2 : Int) < ((20 : Nat) : Int) := by omega
  have e3 : (0 : Int) ≤ 3 ∧ (3 : Int) < ((20 : Nat) : Int) := by omega
  rcases h3 with ⟨h, e⟩ | ⟨h, e⟩
  · rw [e]
    have d : decide ((n : Int) ≥ 100) = true := decide_eq_true (by omega)
    simp -implicitDefEqProofs (maxDischargeDepth := 15) only [↓reduceIte, Yr, Ys, Yt, Wb, Wj, Wk, Wo, Wu, opA, Wv, Ww, Wx, Wy, Wz, Za, Zb, Vb, partA, Zh, Zi, Zk, Zq, Zr, binA, and_self, eq_self, ev_g, e2, hg, d, show (2 : Int).toNat = 2 from rfl, Nat.mul_one]
    refine RunV.to (bool2_ok true _) ?_
    simp -implicitDefEqProofs (maxDischargeDepth := 15) only [↓reduceIte, Yr, Ys, Yt, Wh, Wo, Wu, opA, Wv, Wx, Wy, Wz, Za, Zb, Vb, binA, and_self, EndOk, resultA, oneOf, Zz, eq_self, show wrapF .i64 ((2 : Int) + 1) = 3 from rfl]
  · rw [e]
    have d : decide ((n : Int) ≥ 1000) = false := decide_eq_false (by omega)
    simp -implicitDefEqProofs (maxDischargeDepth := 15) only [↓reduceIte, Yr, Ys, Yt, Wb, Wj, Wk, Wo, Wu, opA, Wv, Ww, Wx, Wy, Wz, Za, Zb, Vb, partA, Zh, Zi, Zk, Zq, Zr, binA, and_self, eq_self, ev_g, e3, hg, d, show (3 : Int).toNat = 3 from rfl, Nat.mul_one]
    refine RunV.to (bool2_ok false _) ?_
    simp -implicitDefEqProofs (maxDischargeDepth := 15) only [↓reduceIte, Yr, Ys, Yt, Wh, Wo, Wu, opA, Wv, Wx, Wy, Wz, Za, Zb, Vb, binA, and_self, EndOk, resultA, oneOf, Zz, Yd, eq_self, show wrapF .i64 ((3 : Int) + 0) = 3 from rfl]
abbrev z8 : AV := .int .u8 0
set_option maxHeartbeats 4000000 in
theorem base10_ok {n b : Nat} {c : Option Nat} (h1 : 100 ≤ n) (h2 : n < 1000) {σ : AState} (hW : σ.Wf) (hg : σ.get b = some (.cells [z8, z8, z8, z8, z8, z8, z8, z8, z8, z8, z8, z8, z8, z8, z8, z8, z8, z8, z8, z8, z8, z8, z8, z8] true)) :
    RunF RR Tryz.prog n_istrconv_formatBase10 [.slice (some (b, 1)) 3 c 1, .int .u64 n] σ (fun u σ' => σ'.get b = some (.cells [z8, .int .u8 ((48 + n / 100 : Nat) : Int), .int .u8 ((UInt8.ofNat (48 + n % 100 / 10)).toNat : Int), .int .u8 ((UInt8.ofNat (48 + n % 100 % 10)).toNat : Int), z8, z8, z8, z8, z8, z8, z8, z8, z8, z8, z8, z8, z8, z8, z8, z8, z8, z8, z8, z8] true) ∧ Kept (fun j => j = b) σ σ') := by
  refine runF_intro hmx rf_istrconv_formatBase10 ?_
  have hbl := hW.lt hg
  simp -implicitDefEqProofs (maxDischargeDepth := 15) only [Yr, Ys, Yt, Wj, Wk, Wm, Wo, opA, Wv, Wx, Wy, Wz, Za, Zb, List.replicate, Zc, Zd, Ze, Vb, Zf, Zg, Nat.reduceAdd, Nat.reduceSub, Zk, i_istrconv_formatBase10, c0_14, c0_15, c0_16, c0_17, c0_18, c0_19, c0_20, c0_21, c0_22, c0_23, c0_24, c0_25, c0_26, c0_27, c0_28, c0_29, c0_30, c0_31, c0_32, c0_33]
  refine wp_unroll ?_
  have w1 : wrapF .u32 (n : Int) = (n : Int) := wrap_u32 (by omega)
  have m1 : (n : Int).tmod 100 = ((n % 100 : Nat) : Int) := tmodN n 100
  have z1 : ((100 : Int) = 0) = False := by simp
  have w2 : wrapF .u32 (((n % 100 : Nat) : Int) * 2) = ((n % 100 * 2 : Nat) : Int) := by rw [wrap_u32 (by omega)]; omega
  have w3 : wrapF .u32 ((n : Int).tdiv 100) = ((n / 100 : Nat) : Int) := by rw [show (100 : Int) = ((100 : Nat) : Int) from rfl, tdivN, wrap_u32 (by omega)]
  have w4 : wrapF .u32 (((n % 100 * 2 : Nat) : Int) + 1) = ((n % 100 * 2 + 1 : Nat) : Int) := by rw [wrap_u32 (by omega)]; omega
  have w5 : wrapF .u32 (48 + ((n / 100 : Nat) : Int)) = ((48 + n / 100 : Nat) : Int) := by rw [wrap_u32 (by omega)]; omega
  have w6 : wrapF .u8 ((48 + n / 100 : Nat) : Int) = ((48 + n / 100 : Nat) : Int) := wrap_u8 (by omega)
  have a1 : wrapF .i64 (((3 : Nat) : Int) - 1) = 2 := rfl
  have a2 : wrapF .i64 (((3 : Nat) : Int) - 2) = 1 := rfl
  have a3 : (0 : Int) ≤ 2 ∧ (2 : Int) < ((3 : Nat) : Int) := by omega
  have a4 : (0 : Int) ≤ 1 ∧ (1 : Int) < ((3 : Nat) : Int) := by omega
  have a5 : (0 : Int) ≤ 0 ∧ (0 : Int) < ((3 : Nat) : Int) := by omega
  have hlt : n % 100 < 100 := Nat.mod_lt _ (by omega)
  have s1 := (small_at hlt).1
  have s2 := (small_at hlt).2
  simp -implicitDefEqProofs (maxDischargeDepth := 15) only [↓reduceIte, Yr, Ys, Yt, Yz, Wa, Wg, Wi, Wj, Wk, Wl, Wo, Wp, Wq, Ws, Wt, opA, Wv, Ww, Wx, Wy, Wz, Va, Za, Zb, Zc, Zd, Vb, Vc, Ve, AV.cells, Vk, Zf, Zg, Nat.reduceAdd, Nat.reduceLeDiff, Zk, Zl, Zm, Zn, Zo, Zp, binA, putL, allOne, Zu, Zv, AV.one, Zy, and_self, true_and, EndOk, resultA, Yf, Yg, eq_self, Ym, c0_0, c0_1, c0_2, c0_3, c0_4, c0_5, c0_6, c0_7, c0_8, c0_9, c0_10, c0_11, c0_12, show decide (((3 : Nat) : Int) ≥ 8) = false from rfl, show decide (((3 : Nat) : Int) ≥ 4) = false from rfl, show decide (((3 : Nat) : Int) ≥ 2) = true from rfl, show decide ((1 : Int) > 0) = true from rfl, show (2 : Int).toNat = 2 from rfl, show (1 : Int).toNat = 1 from rfl, w1, m1, z1, w2, w3, w4, s1, s2, w5, w6, a1, a2, a3, a4, a5, hg, Nat.mul_one]
  exact (((Kept.refl hW).set (Own := fun j => j = b) rfl hbl _).set (Own := fun j => j = b) rfl hbl _).set (Own := fun j => j = b) rfl hbl _
theorem itoa100_ev : ((List.range 100).all fun n => isStr (numS n) (evA n_strconv_Itoa [.int .i64 n])) = true := by kernel_rfl
set_option maxHeartbeats 4000000 in
theorem itoaN_ok {n : Nat} (hn : n < 1000) {σ : AState} {w : Bool} (hg : σ.get 1 = some (.cells pow10L w)) : RunF RR Tryz.prog n_strconv_Itoa [.int .i64 n] σ (fun u σ' => u = .str (numS n) ∧ σ' = σ) := by
  by_cases h : n < 100
  · obtain ⟨τ, h⟩ := isStr_ok (List.all_eq_true.1 itoa100_ev n (by simpa using h))
    exact evA_ok rfl rfl h σ
  refine RunV.wf fun hW => RunV.forget rfl ?_
  refine runF_intro hmx rf_strconv_Itoa ?_
  simp -implicitDefEqProofs (maxDischargeDepth := 15) only [Yr, Ys, Yt, Wb, Wj, Wk, Wo, opA, Wv, Ww, Wx, Wy, Wz, Za, Zb, List.replicate, Zc, Zd, Ze, Vb, Zf, Zg, Zh, Zi, Nat.reduceSub, Zk, i_strconv_Itoa, c77_0, c77_1, c77_2]
  have key : RunF RR Tryz.prog n_istrconv_Itoa [.int .i64 n] σ (fun u σ' => u = .str (numS n) ∧ Sub σ.get σ'.get) := by
    refine runF_intro hmx rf_istrconv_Itoa ?_
    simp -implicitDefEqProofs (maxDischargeDepth := 15) only [Yr, Ys, Yt, Wb, Wj, Wk, Wo, opA, Wv, Ww, Wx, Wy, Wz, Za, Zb, List.replicate, Zc, Zd, Ze, Vb, Zf, Zg, Zh, Zi, Nat.reduceSub, Zk, i_istrconv_Itoa, c52_0, c52_1, c52_2]
    have key2 : RunF RR Tryz.prog n_istrconv_FormatInt [.int .i64 n, .int .i64 10] σ (fun u σ' => u = .str (numS n) ∧ Sub σ.get σ'.get) := by
      refine runF_intro hmx rf_istrconv_FormatInt ?_
      have d1 : decide ((0 : Int) ≤ (n : Int)) = true := decide_eq_true (by omega)
      have d2 : decide ((n : Int) < 100) = false := decide_eq_false (by omega)
      have d3 : decide ((n : Int) < 0) = false := decide_eq_false (by omega)
      have w1 : wrapF .u64 (n : Int) = (n : Int) := wrap_u64 (by omega)
      have hWp := hW.push (.cells [z8, z8, z8, z8, z8, z8, z8, z8, z8, z8, z8, z8, z8, z8, z8, z8, z8, z8, z8, z8, z8, z8, z8, z8] true)
      simp -implicitDefEqProofs (maxDischargeDepth := 15) only [↓reduceIte, Yr, Ys, Yt, Yv, Yz, Wa, Wb, Wd, Wg, Wj, Wk, Wl, Wo, opA, Wv, Ww, Wx, Wy, Wz, Za, Zb, List.replicate, Zc, Zd, Ze, Vb, Vc, Vd, Zf, Zg, Zh, Zi, Nat.reduceAdd, Nat.reduceSub, Zk, binA, Yg, Vu, Vv, Yj, eq_self, Yp, i_istrconv_FormatInt, c30_0, c30_1, c30_2, c30_3, c30_4, c30_5, c30_6, c30_7, c30_8, c30_9, c30_10, c30_11, c30_12, c30_13, c30_14, c30_15, c30_16, c30_17, c30_18, c30_19, c30_20, c30_21, c30_22, d2, d3, w1]
      refine RunV.to (numDigits_ok (by omega) hn (sub_push hW _ _ _ hg)) ?_
      simp -implicitDefEqProofs (maxDischargeDepth := 15) only [↓reduceIte, Yr, Ys, Yt, Wb, Wj, Wk, Wo, Wu, opA, Wv, Ww, Wx, Wy, Wz, Za, Zb, Vb, Vg, Zf, Zg, Zh, Zi, Nat.reduceAdd, Nat.reduceLeDiff, Nat.reduceSub, Zj, Zk, binA, Zz, natOf, upTo, bMax, bHigh, bLow, boundsA, evO, Yh, Yi, eq_self, show wrapF .i64 ((1 : Int) + 3) = 4 from rfl, Nat.mul_one]
      refine (base10_ok (by omega) hn hWp Vg).mono ?_
      rintro u σ9 ⟨hb, hK⟩
      simp -implicitDefEqProofs (maxDischargeDepth := 15) only [↓reduceIte, Yr, Ys, Yt, Wa, Wg, Wh, Wj, Wk, Wl, Wo, Wq, Wu, opA, Wv, Ww, Wx, Wy, Wz, Za, Zb, Vb, Zf, Zg, Nat.reduceAdd, Nat.reduceLeDiff, Nat.reduceSub, Zj, Zk, Zm, Zn, Zo, Zp, binA, firstA, EndOk, resultA, oneOf, Zz, Yf, natOf, upTo, bMax, bHigh, bLow, boundsA, evO, Yh, Yi, eq_self, show wrapF .i64 ((1 : Int) + 3) = 4 from rfl, d3, hb, toBytes, Nat.mul_one]
      refine ⟨?_, fun i b e => hK.keep i b (by have := hW.lt e; omega) (sub_push hW _ i b e)⟩
      have q1 : n % 100 / 10 = n / 10 % 10 := by omega
      have q2 : n % 100 % 10 = n % 10 := by omega
      unfold numS
      rw [if_neg (by omega), if_neg h, UInt8.ofNat_toNat, UInt8.ofNat_toNat, q1, q2]
    refine key2.mono ?_
    rintro u σ9 ⟨rfl, hs⟩
    simp -implicitDefEqProofs (maxDischargeDepth := 15) only [Yr, Ys, Yt, Wh, Wo, Wu, opA, Wv, Wx, Wy, Wz, Za, Zb, Vb, true_and, EndOk, resultA, oneOf, Zz, eq_self]
    exact hs
  refine key.mono ?_
  rintro u σ9 ⟨rfl, hs⟩
  simp -implicitDefEqProofs (maxDischargeDepth := 15) only [Yr, Ys, Yt, Wh, Wo, Wu, opA, Wv, Wx, Wy, Wz, Za, Zb, Vb, true_and, EndOk, resultA, oneOf, Zz, eq_self]
  exact hs
end Go.Am
namespace Go.Am
open Go.RowKit Go.Proofs Do
set_option maxRecDepth 100000
theorem jn_bound {B : Nat} (sep : Str) : ∀ (ss : List Str), (∀ s ∈ ss, s.length ≤ B) → (jn ss sep).length ≤ ss.length * (B + sep.length)
  | [], _ => by simp [jn_nil]
  | [x], h => by rw [jn_one]; have := h x (by simp); simp only [List.length_cons, List.length_nil]; omega
  | x :: y :: r, h => by
    have h1 := h x (by simp)
    have h2 := jn_bound sep (y :: r) fun s hs => h s (List.mem_cons_of_mem _ hs)
    rw [jn_cons2]
    simp only [List.length_append, List.length_cons] at h2 ⊢
    rw [Nat.add_mul (r.length + 1) 1]
    omega
theorem list_ok {σ : AState} {o : Option (Nat × Nat)} {n : Nat} {c : Option Nat} {z : Nat} {l : List Nat} {w : Bool} (hI : Is σ.get o n z l) (hl : ∀ k ∈ l, k ≤ 999) (hn : l.length ≤ 1000) (hg : σ.get 1 = some (.cells pow10L w)) :
    RunF RR Tryz.prog n_describe_list [.slice o n c z] σ (fun u σ' => u = .str (listS l) ∧ σ' = σ) := by
  refine RunV.wf fun hW => RunV.forget rfl ?_
  refine runF_intro hmx rf_describe_list ?_
  have hnl : n = l.length := hI.1
  simp -implicitDefEqProofs (maxDischargeDepth := 15) only [Yr, Ys, Yt, Wj, Wk, Wm, Wo, opA, Wv, Ww, Wx, Wy, Wz, Za, Zb, List.replicate, Zc, Zd, Ze, Vb, Zf, Zg, Nat.reduceSub, Zk, i_describe_list, c90_8, c90_9, c90_10, c90_11, c90_12, c90_13]
  show wpC RR Tryz.prog (.loop c90_6) _ _ _
  refine wp_loopK (fun ts σ' m => ∃ (k : Nat) (o' : Option (Nat × Nat)) (c' : Option Nat) (z' : Nat), Grown σ σ' o' k c' z' 1 (((l.take k).map numS).map .str) ∧ k + m = n ∧ ∃ j1 j4 j5 j9 j10 j11 j12 j13 j14 j15 j16 j17 j18 j19 : AV, ts = [.slice o n c z, j1, .str [], .slice o' k c' z', j4, j5, .slice o n c z, .int .i64 n, .int .i64 k, j9, j10, j11, j12, j13, j14, j15, j16, j17, j18, j19]) n
    ⟨0, none, some 0, 0, Grown.nil hW hW (fun _ _ e => e) (Nat.le_refl _) _ _ _, by omega, _, _, _, _, _, _, _, _, _, _, _, _, _, _, rfl⟩ ?_
  rintro m ts σ' ⟨k, o', c', z', hG, hk, j1, j4, j5, j9, j10, j11, j12, j13, j14, j15, j16, j17, j18, j19, rfl⟩
  by_cases hlt : k < n
  · obtain ⟨x, hx, hxm⟩ := get_lt (l := l) (k := k) (by omega)
    obtain ⟨rfl, i, off, cs, w2, rfl, hgi, hci⟩ := hI.elem hx
    have hgk := hG.keep _ _ hgi
    have d1 : decide ((k : Int) < (n : Int)) = true := decide_eq_true (by omega)
    have e1 : (0 : Int) ≤ (k : Int) ∧ (k : Int) < (n : Int) := by omega
    simp -implicitDefEqProofs (maxDischargeDepth := 15) only [↓reduceIte, Yr, Ys, Yt, Yz, Wb, Wg, Wj, Wk, Wl, Wm, Wo, opA, Wv, Ww, Wx, Wy, Wz, Za, Zb, Vb, partA, Zh, Zi, binA, and_self, Yf, eq_self, Yp, c90_0, c90_1, c90_2, c90_3, c90_4, c90_5, c90_6, e1, hgk, hci, Nat.mul_one]
    refine RunV.to (itoaN_ok (by have := hl x hxm; omega) (hG.keep _ _ hg)) ?_
    have hG2 := hG.push (.cells [.str (numS x)] true)
    obtain ⟨es, he, hG3, _⟩ := hG2.kept (bytes := 16) (xs := [.str (numS x)]) (by omega) rfl rfl (decide_eq_true (by omega))
    have w1 : wrapF .i64 ((k : Int) + 1) = ((k + 1 : Nat) : Int) := by rw [wrap_i64 (by omega)]; rfl
    simp -implicitDefEqProofs (maxDischargeDepth := 15) only [↓reduceIte, Yr, Ys, Yt, Wj, Wo, Wr, Wu, opA, Wv, Ww, Wx, Wy, Wz, Za, Zb, Zd, Ze, Vb, Vc, Vd, AV.cells, Vg, Zf, Zg, Zh, Zi, Zj, Zk, Zm, Zn, Zo, Zp, Zs, Zt, binA, fillA, and_self, lenA, firstA, eq_self, he, w1, lk_n]
    refine ⟨m - 1, by omega, k + 1, _, _, _, ?_, by omega, _, _, _, _, _, _, _, _, _, _, _, _, _, _, rfl⟩
    have : (((l.take (k + 1)).map numS).map AV.str) = (((l.take k).map numS).map AV.str) ++ [.str (numS x)] := by rw [List.take_add_one, hx]; simp
    rw [this]
    exact hG3
  · have d1 : decide ((k : Int) < (n : Int)) = false := decide_eq_false (by omega)
    have hkk : l.take k = l := List.take_of_length_le (by omega)
    rw [hkk] at hG
    have hb := jn_bound (B := 3) sAnd (l.map numS) (fun s hs => by obtain ⟨x, _, rfl⟩ := List.mem_map.1 hs; exact (numS_len x).2)
    simp only [List.length_map, List.length_cons, List.length_nil] at hb
    simp -implicitDefEqProofs (maxDischargeDepth := 15) only [↓reduceIte, Yr, Ys, Yt, Wa, Wb, Wi, Wj, Wk, Wl, Wo, Wp, Ws, opA, Wv, Ww, Wx, Wy, Wz, Za, Zb, Vb, Zh, Zi, binA, eq_self, c90_0, c90_1, c90_2, c90_3, c90_4, c90_5, c90_6, d1, lk_e]
    refine RunV.to (sjoin_ok (hG.strs) sAnd (by omega) (by omega)) ?_
    simp -implicitDefEqProofs (maxDischargeDepth := 15) only [Yr, Ys, Yt, Wh, Wo, Wu, opA, Wv, Wx, Wy, Wz, Za, Zb, Vb, EndOk, resultA, oneOf, Zz]
    exact ⟨rfl, hG.keep⟩
end Go.Am
namespace Go.Am
open Go.RowKit Go.Proofs Do
set_option maxRecDepth 100000
def claimWs (l r : List F) : List Str := l.map (fun f => jn [wGiven, f.txt] sp) ++ r.map (fun f => jn [wShow, f.txt] sp)
theorem claimWs_len (l r : List F) : (claimWs l r).length = (l ++ r).length := by simp [claimWs]
theorem claim_get {l r : List F} {i : Nat} {f : F} (h : (l ++ r)[i]? = some f) : (claimWs l r)[i]? = some (jn [if i < l.length then wGiven else wShow, f.txt] sp) := by
  unfold claimWs
  by_cases q : i < l.length
  · rw [List.getElem?_append_left q] at h
    rw [List.getElem?_append_left (by simpa using q), List.getElem?_map, h, if_pos q]; rfl
  · rw [List.getElem?_append_right (by omega)] at h
    rw [List.getElem?_append_right (by simp; omega), List.getElem?_map, List.length_map, h, if_neg q]; rfl
theorem word_len (i n : Nat) (f : F) (h : f.txt.length ≤ 1000000) : (jn [if i < n then wGiven else wShow, f.txt] sp).length ≤ 1000100 := by
  rw [jn_cons2, jn_one]
  split <;> simp <;> omega
set_option maxHeartbeats 4000000 in
theorem claim_ok {σ : AState} {l r : List F} {o o2 : Option (Nat × Nat)} {c c2 : Option Nat} {z z2 : Nat} (hl : Fs σ.get o l.length z l) (hr : Fs σ.get o2 r.length z2 r) (h0 : l = [] → o = none) (h1 : r = [] → o2 = none)
    (hp : 0 < (l ++ r).length) (hb : (l ++ r).length ≤ 100) (hf : ∀ f ∈ l ++ r, f.right = true ∧ f.sane ∧ f.txt.length ≤ 1000000) :
    RunF RR Tryz.prog n_describe_Claim [.agg [.slice o l.length c z, .slice o2 r.length c2 z2]] σ (fun u σ' => u = .tuple [.str (claimS l r), .int .i64 0] ∧ σ' = σ) := by
  refine RunV.wf fun hW => RunV.forget rfl ?_
  refine runF_intro hmx rf_describe_Claim ?_
  have hs1 := sub_push hW (.cells [.slice o l.length c z, .slice o2 r.length c2 z2] true)
  have hW1 := hW.push (.cells [.slice o l.length c z, .slice o2 r.length c2 z2] true)
  have hs2 := sub_push hW1 (.cells [.slice o l.length c z, .slice o2 r.length c2 z2] true)
  have hW2 := hW1.push (.cells [.slice o l.length c z, .slice o2 r.length c2 z2] true)
  have hfl : [l, r].flatten = l ++ r := by simp
  have hA : ((σ.push (.cells [.slice o l.length c z, .slice o2 r.length c2 z2] true)).push (.cells [.slice o l.length c z, .slice o2 r.length c2 z2] true)).get σ.next = some (.cells [.slice o l.length c z, .slice o2 r.length c2 z2] true) := by
    rw [Vh Vi, Vg]
  simp -implicitDefEqProofs (maxDischargeDepth := 15) only [↓reduceIte, Yr, Ys, Yt, Wb, Wj, Wk, Wo, opA, Wv, Ww, Wx, Wy, Wz, Za, Zb, List.replicate, Zc, Zd, Ze, Vb, Vc, Vd, AV.cells, Vg, partA, Zf, Zg, Zh, Zi, Nat.reduceAdd, Nat.reduceLeDiff, Nat.reduceSub, Zj, Zk, Zl, Zm, Zn, Zo, Zp, Zq, Zr, Zs, fillA, and_self, eq_self, i_describe_Claim, c59_0, c59_1, c59_2, c59_3, c59_4, c59_5, c59_6, c59_7, c59_8, c59_9, c59_10, c59_11, c59_12, c59_13, c59_14, c59_15, c59_16, c59_17, c59_18, c59_19, c59_20, c59_21, c59_22, c59_23]
  refine (concat_ok (ls := [l, r]) (n := 2) rfl Vg (fun k x hk => by
    match k with
    | 0 => simp only [List.getElem?_cons_zero, Option.some.injEq] at hk; subst hk; exact ⟨o, c, z, rfl, (hl.sub hs1).sub hs2, h0⟩
    | 1 => simp only [List.getElem?_cons_succ, List.getElem?_cons_zero, Option.some.injEq] at hk; subst hk; exact ⟨o2, c2, z2, rfl, (hr.sub hs1).sub hs2, h1⟩
    | _ + 2 => simp at hk) (by rw [hfl]; exact hp) (by rw [hfl]; omega) (by omega)).mono ?_
  rintro u σ3 ⟨o', c', z', rfl, hF, hG⟩
  rw [hfl] at hF
  rw [hfl]
  have hb3 := hG.sub _ _ hA
  have hs3 := (hs1.trans hs2).trans hG.sub
  have hW3 := hG.wf
  generalize hn : (l ++ r).length = n at *
  simp -implicitDefEqProofs (maxDischargeDepth := 15) only [Yr, Ys, Yt, Wm, Wo, Wu, opA, Wv, Ww, Wx, Wy, Wz, Za, Zb, Vb]
  refine wp_loopK (fun ts σ' m => ∃ (i : Nat) (so : Option (Nat × Nat)) (sc : Option Nat) (sz : Nat), Grown σ3 σ' so i sc sz 1 (((claimWs l r).take i).map .str) ∧ i + m = n ∧ ∃ j0 j5 j6 j7 j8 j9 j10 j11 j12 j13 j14 j18 j19 j20 j21 j22 j23 j24 j25 j26 j27 j28 j29 j30 j31 j32 j33 j34 j35 j36 j37 j38 j39 j40 j41 j42 j43 j44 : AV, ts = [j0, .ptr (some (σ.next, 0)), .str [], .int .i64 0, .slice so i sc sz, j5, j6, j7, j8, j9, j10, j11, j12, j13, j14, .slice o' n c' z', .int .i64 n, .int .i64 i, j18, j19, j20, j21, j22, j23, j24, j25, j26, j27, j28, j29, j30, j31, j32, j33, j34, j35, j36, j37, j38, j39, j40, j41, j42, j43, j44]) n
    ⟨0, none, some 0, 0, Grown.nil hW3 hW3 (fun _ _ e => e) (Nat.le_refl _) _ _ _, by omega, _, _, _, _, _, _, _, _, _, _, _, _, _, _, _, _, _, _, _, _, _, _, _, _, _, _, _, _, _, _, _, _, _, _, _, _, _, _, rfl⟩ ?_
  rintro m ts σ' ⟨i, so, sc, sz, hGr, hi, j0, j5, j6, j7, j8, j9, j10, j11, j12, j13, j14, j18, j19, j20, j21, j22, j23, j24, j25, j26, j27, j28, j29, j30, j31, j32, j33, j34, j35, j36, j37, j38, j39, j40, j41, j42, j43, j44, rfl⟩
  by_cases hlt : i < n
  · obtain ⟨f, hx, hxm⟩ := get_lt (l := l ++ r) (k := i) (by omega)
    obtain ⟨rfl, ib, off, cs, w, rfl, hg, hle, xs, he, hdx⟩ := (hF.sub hGr.keep).elem hx
    obtain ⟨hfr, hfs, hft⟩ := hf f hxm
    have hcg := claim_get hx
    have hwl := word_len i l.length f hft
    have hiy := hGr.wf.lt hg
    have hb4 := hGr.keep _ _ hb3
    have hby := hGr.wf.lt hb4
    obtain ⟨op, nm, ar, sb⟩ := f
    have hdx0 := hdx
    obtain ⟨o5, c5, z5, p5, q5, y5, rfl, _⟩ := F.cells hdx
    have d1 : decide ((i : Int) < (n : Int)) = true := decide_eq_true (by omega)
    have e1 : (0 : Int) ≤ (i : Int) ∧ (i : Int) < (n : Int) := by omega
    have w1 : wrapF .i64 ((i : Int) + 1) = ((i + 1 : Nat) : Int) := by rw [wrap_i64 (by omega)]; rfl
    have hs5 := sub_push hGr.wf (.cells [.int .u8 op, .str nm, .slice o5 ar.length c5 z5, .slice p5 sb.length q5 y5] true)
    simp -implicitDefEqProofs (maxDischargeDepth := 15) only [↓reduceIte, Yr, Ys, Yt, Yz, Wb, Wg, Wj, Wk, Wl, Wm, Wo, opA, Wv, Ww, Wx, Wy, Wz, Va, Za, Zb, Zd, Ze, Vb, Vc, Vd, Ve, AV.cells, Vg, Vn, partA, Zf, Zg, Zh, Zi, Nat.reduceAdd, Zj, Zk, Zm, Zn, Zo, Zp, Zs, Zt, binA, putL, allOne, Zu, Zv, AV.one, Zy, and_self, Yf, eq_self, Yp, e1, hg, he, hle]
    refine RunV.to (form_ok _ hfr hfs (by omega) _ _ (DAtL.sub hs5 _ _ hdx0)) ?_
    generalize F.txt (F.mk op nm ar sb) = tx at *
    by_cases q : i < l.length
    · have d2 : decide ((i : Int) < (l.length : Int)) = true := decide_eq_true (by omega)
      rw [if_pos q] at hcg hwl
      simp -implicitDefEqProofs (maxDischargeDepth := 15) only [↓reduceIte, Yr, Ys, Yt, Yz, Wa, Wb, Wg, Wj, Wk, Wl, Wo, Wu, opA, Wv, Ww, Wx, Wy, Wz, Za, Zb, Zc, Zd, Ze, Vb, Vc, Vd, AV.cells, Vh, partA, Zf, Zg, Zh, Zi, Nat.reduceAdd, Nat.reduceLeDiff, Zj, Zk, Zl, Zm, Zn, Zo, Zp, Zq, Zr, Zs, binA, fillA, and_self, Yk, eq_self, hb4, hby, d2]
      refine RunV.to (join_ok (ss := [wGiven, tx]) (strs_new rfl rfl) (by omega) (by omega)) ?_
      have hG2 := ((hGr.push (.cells [.int .u8 op, .str nm, .slice o5 ar.length c5 z5, .slice p5 sb.length q5 y5] true)).push (.cells [.str wGiven, .str tx] true)).push (.cells [.str (jn [wGiven, tx] sp)] true)
      obtain ⟨es, ha, hG3, _⟩ := hG2.kept (bytes := 16) (xs := [.str (jn [wGiven, tx] sp)]) (by omega) rfl rfl (decide_eq_true (by omega))
      simp -implicitDefEqProofs (maxDischargeDepth := 15) only [↓reduceIte, Yr, Ys, Yt, Wj, Wo, Wr, Wu, opA, Wv, Ww, Wx, Wy, Wz, Za, Zb, Zd, Ze, Vb, Vc, Vd, AV.cells, Vg, Zf, Zg, Zh, Zi, Zj, Zk, Zm, Zn, Zo, Zp, Zs, Zt, binA, fillA, and_self, lenA, firstA, eq_self, ha, w1, lk_n]
      refine ⟨m - 1, by omega, i + 1, _, _, _, ?_, by omega, _, _, _, _, _, _, _, _, _, _, _, _, _, _, _, _, _, _, _, _, _, _, _, _, _, _, _, _, _, _, _, _, _, _, _, _, _, _, rfl⟩
      have : (((claimWs l r).take (i + 1)).map AV.str) = (((claimWs l r).take i).map AV.str) ++ [.str (jn [wGiven, tx] sp)] := by rw [List.take_add_one, hcg]; simp
      rw [this]
      exact hG3
    · have d2 : decide ((i : Int) < (l.length : Int)) = false := decide_eq_false (by omega)
      rw [if_neg q] at hcg hwl
      simp -implicitDefEqProofs (maxDischargeDepth := 15) only [↓reduceIte, Yr, Ys, Yt, Wa, Wb, Wg, Wj, Wk, Wl, Wo, Wu, opA, Wv, Ww, Wx, Wy, Wz, Za, Zb, Zc, Zd, Ze, Vb, Vc, Vd, AV.cells, Vh, partA, Zf, Zg, Zh, Zi, Nat.reduceAdd, Nat.reduceLeDiff, Zj, Zk, Zl, Zm, Zn, Zo, Zp, Zq, Zr, Zs, binA, fillA, and_self, Yk, eq_self, hb4, hby, d2]
      refine RunV.to (join_ok (ss := [wShow, tx]) (strs_new rfl rfl) (by omega) (by omega)) ?_
      have hG2 := ((hGr.push (.cells [.int .u8 op, .str nm, .slice o5 ar.length c5 z5, .slice p5 sb.length q5 y5] true)).push (.cells [.str wShow, .str tx] true)).push (.cells [.str (jn [wShow, tx] sp)] true)
      obtain ⟨es, ha, hG3, _⟩ := hG2.kept (bytes := 16) (xs := [.str (jn [wShow, tx] sp)]) (by omega) rfl rfl (decide_eq_true (by omega))
      simp -implicitDefEqProofs (maxDischargeDepth := 15) only [↓reduceIte, Yr, Ys, Yt, Wj, Wo, Wr, Wu, opA, Wv, Ww, Wx, Wy, Wz, Za, Zb, Zd, Ze, Vb, Vc, Vd, AV.cells, Vg, Zf, Zg, Zh, Zi, Zj, Zk, Zm, Zn, Zo, Zp, Zs, Zt, binA, fillA, and_self, lenA, firstA, eq_self, ha, w1, lk_n]
      refine ⟨m - 1, by omega, i + 1, _, _, _, ?_, by omega, _, _, _, _, _, _, _, _, _, _, _, _, _, _, _, _, _, _, _, _, _, _, _, _, _, _, _, _, _, _, _, _, _, _, _, _, _, _, rfl⟩
      have : (((claimWs l r).take (i + 1)).map AV.str) = (((claimWs l r).take i).map AV.str) ++ [.str (jn [wShow, tx] sp)] := by rw [List.take_add_one, hcg]; simp
      rw [this]
      exact hG3
  · have d1 : decide ((i : Int) < (n : Int)) = false := decide_eq_false (by omega)
    have hwn := claimWs_len l r
    have hkk : (claimWs l r).take i = claimWs l r := List.take_of_length_le (by omega)
    rw [hkk] at hGr
    have hbd := jn_bound (B := 1000100) sComma (claimWs l r) (fun s hs => by
      obtain ⟨k, hk⟩ := List.getElem?_of_mem hs
      have hkl : k < (claimWs l r).length := by
        rcases Nat.lt_or_ge k (claimWs l r).length with h | h
        · exact h
        · rw [List.getElem?_eq_none h] at hk; cases hk
      obtain ⟨f, hx, hxm⟩ := get_lt (l := l ++ r) (k := k) (by omega)
      rw [claim_get hx] at hk
      cases hk
      exact word_len k l.length f (hf f hxm).2.2)
    simp only [List.length_cons, List.length_nil] at hbd
    simp -implicitDefEqProofs (maxDischargeDepth := 15) only [↓reduceIte, Yr, Ys, Yt, Wa, Wb, Wi, Wj, Wk, Wl, Wo, Wp, Ws, opA, Wv, Ww, Wx, Wy, Wz, Za, Zb, Vb, Zh, Zi, binA, eq_self, d1, lk_e]
    refine RunV.to (sjoin_ok (hGr.strs) sComma (by rw [hwn, hn] at hbd; exact Nat.le_trans hbd (by have := Nat.mul_le_mul_right (1000100 + 2) hb; omega)) (by omega)) ?_
    simp -implicitDefEqProofs (maxDischargeDepth := 15) only [Yr, Ys, Yt, Wh, Wo, Wu, opA, Wv, Ww, Wx, Wy, Wz, Za, Zb, Vb, EndOk, resultA, oneOf, Zz]
    exact ⟨rfl, fun i b e => hGr.keep i b (hs3 i b e)⟩
end Go.Am
namespace Go.Am
open Go.RowKit Go.Proofs Do
set_option maxRecDepth 100000
noncomputable def same {α : Type} (a b : α) : Bool := @decide (a = b) (Classical.propDecidable _)
theorem same_t {α : Type} {a b : α} (h : a = b) : same a b = true := by unfold same; exact @decide_eq_true _ (Classical.propDecidable _) h
theorem same_f {α : Type} {a b : α} (h : a ≠ b) : same a b = false := by unfold same; exact @decide_eq_false _ (Classical.propDecidable _) h
theorem take_ext {α : Type} {l l' : List α} {i : Nat} {x : α} (h : l.take i = l'.take i) (hx : l[i]? = some x) (hy : l'[i]? = some x) : l.take (i + 1) = l'.take (i + 1) := by
  rw [List.take_add_one, List.take_add_one, h, hx, hy]
theorem strs_len {g : Mem} {o : Option (Nat × Nat)} {n z : Nat} {ss : List Str} (h : Strs g o n z ss) : n = ss.length := by
  rcases h with ⟨_, h1, h2⟩ | ⟨h1, _⟩
  · rw [h1, h2]; rfl
  · exact h1.symm
theorem sameTexts_ok {σ : AState} {o o' : Option (Nat × Nat)} {n n' : Nat} {c c' : Option Nat} {z z' : Nat} {l l' : List Str} (h : Strs σ.get o n z l) (h' : Strs σ.get o' n' z' l') (hb : n ≤ 1099511627776) :
    RunF RR Tryz.prog n_kit_SameTexts [.slice o n c z, .slice o' n' c' z'] σ (fun u σ' => u = .bool (same l l') ∧ σ' = σ) := by
  refine runF_intro hmx rf_kit_SameTexts ?_
  have hn := strs_len h
  have hn' := strs_len h'
  by_cases hl : n = n'
  · subst hl
    have d1 : ((n : Int) != (n : Int)) = false := bne_self_eq_false _
    simp -implicitDefEqProofs (maxDischargeDepth := 15) only [↓reduceIte, Yr, Ys, Yt, Wa, Wg, Wj, Wk, Wl, Wm, Wo, opA, Wv, Ww, Wx, Wy, Wz, Za, Zb, List.replicate, Zc, Zd, Ze, Vb, Zf, Zg, Nat.reduceAdd, Nat.reduceSub, Zk, binA, Yk, eq_self, i_kit_SameTexts, c66_0, c66_1, c66_2, c66_3, c66_4, c66_5, c66_6, c66_7, c66_8, c66_9, c66_10, c66_11, c66_12, c66_13, c66_14]
    refine wp_loopK (fun ts σ' m => ∃ i : Nat, i + m = n ∧ σ' = σ ∧ l.take i = l'.take i ∧ ∃ j2 j3 j4 j6 j7 j8 j9 j10 j11 j12 j13 j14 j15 j16 j17 j18 j19 j20 j21 j22 j23 j24 j25 : AV, ts = [.slice o n c z, .slice o' n c' z', j2, j3, j4, .int .i64 i, j6, j7, j8, j9, j10, j11, j12, j13, j14, j15, j16, j17, j18, j19, j20, j21, j22, j23, j24, j25]) n ⟨0, by omega, rfl, rfl, _, _, _, _, _, _, _, _, _, _, _, _, _, _, _, _, _, _, _, _, _, _, _, rfl⟩ ?_
    rintro m ts σ' ⟨i, hi, rfl, ht, j2, j3, j4, j6, j7, j8, j9, j10, j11, j12, j13, j14, j15, j16, j17, j18, j19, j20, j21, j22, j23, j24, j25, rfl⟩
    by_cases hlt : i < n
    · obtain ⟨x, hx, _⟩ := get_lt (l := l) (k := i) (by omega)
      obtain ⟨y, hy, _⟩ := get_lt (l := l') (k := i) (by omega)
      obtain ⟨rfl, ib, off, cs, w, rfl, hg, he⟩ := h.elem hx
      obtain ⟨rfl, ib', off', cs', w', rfl, hg', he'⟩ := h'.elem hy
      have d2 : decide ((i : Int) < (n : Int)) = true := decide_eq_true (by omega)
      have e1 : (0 : Int) ≤ (i : Int) ∧ (i : Int) < (n : Int) := by omega
      have w1 : wrapF .i64 ((i : Int) + 1) = ((i + 1 : Nat) : Int) := by rw [wrap_i64 (by omega)]; rfl
      by_cases q : x = y
      · subst q
        have d3 : (x != x) = false := bne_self_eq_false _
        simp -implicitDefEqProofs (maxDischargeDepth := 15) only [↓reduceIte, Yr, Ys, Yt, Yz, Wa, Wg, Wj, Wk, Wl, Wm, Wo, Wr, opA, Wv, Ww, Wx, Wy, Wz, Za, Zb, Vb, partA, binA, and_self, true_and, Yb, Yf, Yj, eq_self, Yp, e1, hg, he, hg', he', w1, Nat.mul_one, lk_n]
        exact ⟨m - 1, by omega, i + 1, by omega, take_ext ht hx hy, _, _, _, _, _, _, _, _, _, _, _, _, _, _, _, _, _, _, _, _, _, _, _, rfl⟩
      · have d3 : (x == y) = false := beq_eq_false_iff_ne.2 q
        simp -implicitDefEqProofs (maxDischargeDepth := 15) only [↓reduceIte, Yr, Ys, Yt, Yz, Wg, Wh, Wj, Wk, Wl, Wm, Wo, Wq, Wt, opA, Wv, Ww, Wx, Wy, Wz, Za, Zb, Vb, partA, binA, and_self, and_true, EndOk, resultA, oneOf, Zz, Yc, Yf, eq_self, Yp, e1, hg, he, hg', he', d3, Nat.mul_one, lk_r]
        rw [same_f (fun e => q (by rw [e] at hx; rw [hx] at hy; exact Option.some.inj hy))]
    · have d2 : decide ((i : Int) < (n : Int)) = false := decide_eq_false (by omega)
      simp -implicitDefEqProofs (maxDischargeDepth := 15) only [↓reduceIte, Yr, Ys, Yt, Wa, Wh, Wi, Wj, Wk, Wl, Wo, Wp, Ws, opA, Wv, Ww, Wx, Wy, Wz, Za, Zb, Vb, binA, and_true, EndOk, resultA, oneOf, Zz, eq_self, d2, lk_e]
      rw [same_t (by rw [List.take_of_length_le (by omega), List.take_of_length_le (by omega)] at ht; exact ht)]
  · have d1 : ((n : Int) != (n' : Int)) = true := bne_iff_ne.2 (by omega)
    simp -implicitDefEqProofs (maxDischargeDepth := 15) only [↓reduceIte, Yr, Ys, Yt, Yz, Wh, Wj, Wk, Wl, Wo, Wq, opA, Wv, Ww, Wx, Wy, Wz, Za, Zb, List.replicate, Zc, Zd, Ze, Vb, Zf, Zg, Nat.reduceAdd, Nat.reduceSub, Zk, binA, and_true, EndOk, resultA, oneOf, Zz, eq_self, i_kit_SameTexts, c66_0, c66_1, c66_2, c66_3, c66_4, c66_5, c66_6, c66_7, c66_8, c66_9, c66_10, c66_11, c66_12, c66_13, c66_14, d1]
    rw [same_f (fun e => hl (by rw [hn, hn', e]))]
end Go.Am
namespace Go.Am
open Go.RowKit Go.Proofs Do
set_option maxRecDepth 100000
theorem nan8_ok (x : Int) (σ : AState) : RunF RR Tryz.prog n_cmp_isNaN_uint8 [.int .u8 x] σ (fun u σ' => u = .bool false ∧ σ' = σ) := by
  refine runF_intro hmx rf_cmp_isNaN_uint8 ?_
  simp -implicitDefEqProofs (maxDischargeDepth := 15) only [↓reduceIte, Yr, Ys, Yt, Wh, Wj, Wk, Wo, opA, Wv, Ww, Wx, Wy, Wz, Za, Zb, List.replicate, Zc, Zd, Ze, Vb, Zf, Zg, Nat.reduceSub, Zk, binA, and_self, EndOk, resultA, oneOf, Zz, Yk, eq_self, i_cmp_isNaN_uint8, c27_0, c27_1]
theorem nanS_ok (x : Str) (σ : AState) : RunF RR Tryz.prog n_cmp_isNaN_string [.str x] σ (fun u σ' => u = .bool false ∧ σ' = σ) := by
  refine runF_intro hmx rf_cmp_isNaN_string ?_
  simp -implicitDefEqProofs (maxDischargeDepth := 15) only [Yr, Ys, Yt, Wh, Wj, Wk, Wo, opA, Wv, Ww, Wx, Wy, Wz, Za, Zb, List.replicate, Zc, Zd, Ze, Vb, Zf, Zg, Nat.reduceSub, Zk, binA, and_self, EndOk, resultA, oneOf, Zz, Yb, Yj, eq_self, i_cmp_isNaN_string, c78_0, c78_1]
theorem nanI_ok (x : Int) (σ : AState) : RunF RR Tryz.prog n_cmp_isNaN_int [.int .i64 x] σ (fun u σ' => u = .bool false ∧ σ' = σ) := by
  refine runF_intro hmx rf_cmp_isNaN_int ?_
  simp -implicitDefEqProofs (maxDischargeDepth := 15) only [↓reduceIte, Yr, Ys, Yt, Wh, Wj, Wk, Wo, opA, Wv, Ww, Wx, Wy, Wz, Za, Zb, List.replicate, Zc, Zd, Ze, Vb, Zf, Zg, Nat.reduceSub, Zk, binA, and_self, EndOk, resultA, oneOf, Zz, Yk, eq_self, i_cmp_isNaN_int, c105_0, c105_1]
theorem cmp8_ok (x y : Int) (σ : AState) : RunF RR Tryz.prog n_cmp_Compare_uint8 [.int .u8 x, .int .u8 y] σ (fun u σ' => (∃ r : Int, u = .int .i64 r ∧ (r = 0 ↔ x = y)) ∧ σ' = σ) := by
  refine runF_intro hmx rf_cmp_Compare_uint8 ?_
  simp -implicitDefEqProofs (maxDischargeDepth := 15) only [Yr, Ys, Yt, Wb, Wj, Wk, Wo, opA, Wv, Ww, Wx, Wy, Wz, Za, Zb, List.replicate, Zc, Zd, Ze, Vb, Zf, Zg, Zh, Zi, Nat.reduceAdd, Nat.reduceSub, Zk, i_cmp_Compare_uint8, c34_0, c34_1, c34_2, c34_3, c34_4, c34_5, c34_6, c34_7, c34_8, c34_9, c34_10, c34_11, c34_12, c34_13, c34_14, c34_15, c34_16, c34_17, c34_18, c34_19, c34_20]
  refine RunV.to (nan8_ok _ _) ?_
  simp -implicitDefEqProofs (maxDischargeDepth := 15) only [Yr, Ys, Yt, Wb, Wj, Wk, Wo, Wu, opA, Wv, Ww, Wx, Wy, Wz, Za, Zb, Vb, Zh, Zi]
  refine RunV.to (nan8_ok _ _) ?_
  by_cases h : x < y
  · have d1 : decide (x < y) = true := decide_eq_true h
    simp -implicitDefEqProofs (maxDischargeDepth := 15) only [↓reduceIte, Yr, Ys, Yt, Yz, Wa, Wg, Wh, Wj, Wk, Wl, Wo, Wq, Wu, opA, Wv, Ww, Wx, Wy, Wz, Za, Zb, Vb, binA, and_true, EndOk, resultA, oneOf, Zz, eq_self, d1]
    exact ⟨-1, rfl, by omega⟩
  · have d1 : decide (x < y) = false := decide_eq_false h
    by_cases h2 : x > y
    · have d2 : decide (x > y) = true := decide_eq_true h2
      simp -implicitDefEqProofs (maxDischargeDepth := 15) only [↓reduceIte, Yr, Ys, Yt, Yz, Wa, Wg, Wh, Wj, Wk, Wl, Wo, Wq, Wu, opA, Wv, Ww, Wx, Wy, Wz, Za, Zb, Vb, binA, and_true, EndOk, resultA, oneOf, Zz, eq_self, d1, d2]
      exact ⟨1, rfl, by omega⟩
    · have d2 : decide (x > y) = false := decide_eq_false h2
      simp -implicitDefEqProofs (maxDischargeDepth := 15) only [↓reduceIte, Yr, Ys, Yt, Wa, Wg, Wh, Wj, Wk, Wl, Wo, Wu, opA, Wv, Ww, Wx, Wy, Wz, Za, Zb, Vb, binA, and_true, EndOk, resultA, oneOf, Zz, eq_self, d1, d2]
      exact ⟨0, rfl, by omega⟩
theorem cmpI_ok (x y : Int) (σ : AState) : RunF RR Tryz.prog n_cmp_Compare_int [.int .i64 x, .int .i64 y] σ (fun u σ' => (∃ r : Int, u = .int .i64 r ∧ (r = 0 ↔ x = y)) ∧ σ' = σ) := by
  refine runF_intro hmx rf_cmp_Compare_int ?_
  simp -implicitDefEqProofs (maxDischargeDepth := 15) only [Yr, Ys, Yt, Wb, Wj, Wk, Wo, opA, Wv, Ww, Wx, Wy, Wz, Za, Zb, List.replicate, Zc, Zd, Ze, Vb, Zf, Zg, Zh, Zi, Nat.reduceAdd, Nat.reduceSub, Zk, i_cmp_Compare_int, c62_0, c62_1, c62_2, c62_3, c62_4, c62_5, c62_6, c62_7, c62_8, c62_9, c62_10, c62_11, c62_12, c62_13, c62_14, c62_15, c62_16, c62_17, c62_18, c62_19, c62_20]
  refine RunV.to (nanI_ok _ _) ?_
  simp -implicitDefEqProofs (maxDischargeDepth := 15) only [Yr, Ys, Yt, Wb, Wj, Wk, Wo, Wu, opA, Wv, Ww, Wx, Wy, Wz, Za, Zb, Vb, Zh, Zi]
  refine RunV.to (nanI_ok _ _) ?_
  by_cases h : x < y
  · have d1 : decide (x < y) = true := decide_eq_true h
    simp -implicitDefEqProofs (maxDischargeDepth := 15) only [↓reduceIte, Yr, Ys, Yt, Yz, Wa, Wg, Wh, Wj, Wk, Wl, Wo, Wq, Wu, opA, Wv, Ww, Wx, Wy, Wz, Za, Zb, Vb, binA, and_true, EndOk, resultA, oneOf, Zz, eq_self, d1]
    exact ⟨-1, rfl, by omega⟩
  · have d1 : decide (x < y) = false := decide_eq_false h
    by_cases h2 : x > y
    · have d2 : decide (x > y) = true := decide_eq_true h2
      simp -implicitDefEqProofs (maxDischargeDepth := 15) only [↓reduceIte, Yr, Ys, Yt, Yz, Wa, Wg, Wh, Wj, Wk, Wl, Wo, Wq, Wu, opA, Wv, Ww, Wx, Wy, Wz, Za, Zb, Vb, binA, and_true, EndOk, resultA, oneOf, Zz, eq_self, d1, d2]
      exact ⟨1, rfl, by omega⟩
    · have d2 : decide (x > y) = false := decide_eq_false h2
      simp -implicitDefEqProofs (maxDischargeDepth := 15) only [↓reduceIte, Yr, Ys, Yt, Wa, Wg, Wh, Wj, Wk, Wl, Wo, Wu, opA, Wv, Ww, Wx, Wy, Wz, Za, Zb, Vb, binA, and_true, EndOk, resultA, oneOf, Zz, eq_self, d1, d2]
      exact ⟨0, rfl, by omega⟩
end Go.Am
namespace Go.Am
open Go.RowKit Go.Proofs Do
set_option maxRecDepth 100000
theorem less_irrefl : ∀ x : Str, Op.bytesLess x x = false
  | [] => rfl
  | a :: x => by simp [Op.bytesLess, less_irrefl x]
theorem cmpS_ok (x y : Str) (σ : AState) : RunF RR Tryz.prog n_cmp_Compare_string [.str x, .str y] σ (fun u σ' => (∃ r : Int, u = .int .i64 r ∧ (r = 0 ↔ x = y)) ∧ σ' = σ) := by
  refine runF_intro hmx rf_cmp_Compare_string ?_
  simp -implicitDefEqProofs (maxDischargeDepth := 15) only [Yr, Ys, Yt, Wb, Wj, Wk, Wo, opA, Wv, Ww, Wx, Wy, Wz, Za, Zb, List.replicate, Zc, Zd, Ze, Vb, Zf, Zg, Zh, Zi, Nat.reduceAdd, Nat.reduceSub, Zk, i_cmp_Compare_string, c4_0, c4_1, c4_2, c4_3, c4_4, c4_5, c4_6, c4_7, c4_8, c4_9, c4_10, c4_11, c4_12, c4_13, c4_14, c4_15, c4_16, c4_17, c4_18, c4_19, c4_20]
  refine RunV.to (nanS_ok _ _) ?_
  simp -implicitDefEqProofs (maxDischargeDepth := 15) only [Yr, Ys, Yt, Wb, Wj, Wk, Wo, Wu, opA, Wv, Ww, Wx, Wy, Wz, Za, Zb, Vb, Zh, Zi]
  refine RunV.to (nanS_ok _ _) ?_
  cases h : Op.bytesLess x y
  · by_cases h2 : x = y
    · have d2 : (!leU x y) = false := by unfold leU; rw [h2]; simp
      simp -implicitDefEqProofs (maxDischargeDepth := 15) only [Yr, Ys, Yt, Wa, Wg, Wh, Wj, Wk, Wl, Wo, Wu, opA, Wv, Ww, Wx, Wy, Wz, Za, Zb, Vb, binA, and_true, EndOk, resultA, oneOf, Zz, eq_self, h, d2]
      exact ⟨0, rfl, by simp [h2]⟩
    · have d2 : (!leU x y) = true := by unfold leU; rw [h]; simp [h2]
      simp -implicitDefEqProofs (maxDischargeDepth := 15) only [Yr, Ys, Yt, Yz, Wa, Wg, Wh, Wj, Wk, Wl, Wo, Wq, Wu, opA, Wv, Ww, Wx, Wy, Wz, Za, Zb, Vb, binA, and_true, EndOk, resultA, oneOf, Zz, eq_self, h, d2]
      exact ⟨1, rfl, by simp [h2]⟩
  · have h2 : x ≠ y := fun e => by rw [e, less_irrefl] at h; cases h
    simp -implicitDefEqProofs (maxDischargeDepth := 15) only [Yr, Ys, Yt, Yz, Wa, Wg, Wh, Wj, Wk, Wl, Wo, Wq, Wu, opA, Wv, Ww, Wx, Wy, Wz, Za, Zb, Vb, binA, and_true, EndOk, resultA, oneOf, Zz, eq_self, h]
    exact ⟨-1, rfl, by simp [h2]⟩
end Go.Am
namespace Go.Am
open Go.RowKit Go.Proofs Do
set_option maxRecDepth 100000
theorem or_ok {σ : AState} {i n : Nat} {c : Option Nat} {rs : List Int} {w : Bool} (hg : σ.get i = some (.cells (rs.map (AV.int .i64)) w)) (hl : rs.length = n) (hb : n ≤ 1099511627776) :
    RunF RR Tryz.prog n_cmp_Or_int [.slice (some (i, 0)) n c 1] σ (fun u σ' => (∃ r : Int, u = .int .i64 r ∧ (r = 0 ↔ ∀ x ∈ rs, x = 0)) ∧ σ' = σ) := by
  refine runF_intro hmx rf_cmp_Or_int ?_
  simp -implicitDefEqProofs (maxDischargeDepth := 15) only [Yr, Ys, Yt, Wj, Wk, Wm, Wo, opA, Wv, Ww, Wx, Wy, Wz, Za, Zb, List.replicate, Zc, Zd, Ze, Vb, Zf, Zg, Nat.reduceSub, Zk, i_cmp_Or_int, c69_0, c69_1, c69_2, c69_3, c69_4, c69_5, c69_6, c69_7, c69_8, c69_9, c69_10, c69_11, c69_12, c69_13]
  refine wp_loopK (fun ts σ' m => ∃ k : Nat, k + m = n ∧ σ' = σ ∧ (∀ x ∈ rs.take k, x = 0) ∧ ∃ j1 j2 j4 j5 j9 j10 j11 j12 j13 j14 j15 j16 j17 : AV, ts = [.slice (some (i, 0)) n c 1, j1, j2, .int .i64 0, j4, j5, .slice (some (i, 0)) n c 1, .int .i64 n, .int .i64 k, j9, j10, j11, j12, j13, j14, j15, j16, j17]) n ⟨0, by omega, rfl, by simp, _, _, _, _, _, _, _, _, _, _, _, _, _, rfl⟩ ?_
  rintro m ts σ' ⟨k, hk, rfl, ht, j1, j2, j4, j5, j9, j10, j11, j12, j13, j14, j15, j16, j17, rfl⟩
  by_cases hlt : k < n
  · obtain ⟨x, hx, hxm⟩ := get_lt (l := rs) (k := k) (by omega)
    have d1 : decide ((k : Int) < (n : Int)) = true := decide_eq_true (by omega)
    have e1 : (0 : Int) ≤ (k : Int) ∧ (k : Int) < (n : Int) := by omega
    have he : (rs.map (AV.int .i64))[k]? = some (.int .i64 x) := by simp [hx]
    have w1 : wrapF .i64 ((k : Int) + 1) = ((k + 1 : Nat) : Int) := by rw [wrap_i64 (by omega)]; rfl
    by_cases q : x = 0
    · have d2 : (x != 0) = false := by rw [q]; rfl
      simp -implicitDefEqProofs (maxDischargeDepth := 15) only [↓reduceIte, Yr, Ys, Yt, Yz, Wa, Wg, Wj, Wk, Wl, Wm, Wo, Wr, opA, Wv, Ww, Wx, Wy, Wz, Za, Zb, Vb, partA, Zk, binA, and_self, true_and, Yf, eq_self, Yp, e1, hg, he, w1, d2, Nat.mul_one, lk_n]
      refine ⟨m - 1, by omega, k + 1, by omega, fun y hy => ?_, _, _, _, _, _, _, _, _, _, _, _, _, _, rfl⟩
      rw [List.take_add_one, hx] at hy
      rcases List.mem_append.1 hy with h | h
      · exact ht y h
      · simp at h; rw [h]; exact q
    · have d2 : (x != 0) = true := bne_iff_ne.2 q
      simp -implicitDefEqProofs (maxDischargeDepth := 15) only [↓reduceIte, Yr, Ys, Yt, Yz, Wg, Wh, Wj, Wk, Wl, Wm, Wo, Wq, Wt, opA, Wv, Wx, Wy, Wz, Za, Zb, Vb, partA, Zk, binA, and_self, and_true, EndOk, resultA, oneOf, Zz, Yf, eq_self, Yp, e1, hg, he, d2, Nat.mul_one, lk_r]
      exact ⟨x, rfl, fun h => absurd h q, fun h => h x hxm⟩
  · have d1 : decide ((k : Int) < (n : Int)) = false := decide_eq_false (by omega)
    have hk : k = n := by omega
    rw [List.take_of_length_le (by omega)] at ht
    simp -implicitDefEqProofs (maxDischargeDepth := 15) only [↓reduceIte, Yr, Ys, Yt, Wa, Wh, Wi, Wj, Wk, Wl, Wo, Wp, Ws, opA, Wv, Wx, Wy, Wz, Za, Zb, Vb, binA, and_true, EndOk, resultA, oneOf, Zz, eq_self, d1, lk_e]
    exact ⟨0, rfl, fun _ => ht, fun _ => rfl⟩
end Go.Am
namespace Go.Am
open Go.RowKit Go.Proofs Do
set_option maxRecDepth 100000
theorem RunV.forgetP {Rs : Code → AC → Prop} {P : Program} {fv : AV} {args : List AV} {σ : AState} {R : AV → Prop} (hR : ∀ u, R u → AV.flat u = true) (h : RunV Rs P fv args σ (fun u σ' => R u ∧ ∀ i b, σ.get i = some b → σ'.get i = some b)) :
    RunV Rs P fv args σ (fun u σ' => R u ∧ σ' = σ) := fun w0 ρ D cf cargs w hf ha hS =>
  (h w0 ρ D cf cargs w hf ha hS).mono fun cv w' ⟨u, ρ', σ', ⟨hu, hk⟩, _, hx, hr, hS'⟩ =>
    ⟨u, ρ, σ, ⟨hu, rfl⟩, Nat.le_refl _, RX.refl _ _, VRel.flat _ _ (hR u hu) hr, hS.forget hS' hx hk⟩
def ZeroIff (p : Prop) (u : AV) : Prop := ∃ r : Int, u = .int .i64 r ∧ (r = 0 ↔ p)
theorem ZeroIff.flat {p : Prop} (u : AV) (h : ZeroIff p u) : AV.flat u = true := by obtain ⟨r, rfl, _⟩ := h; rfl
end Go.Am
namespace Go.Am
open Go.RowKit Go.Proofs Do
set_option maxRecDepth 100000
theorem cnt_mem {l : List T} {t : T} (h : t ∈ l) : t.cnt ≤ T.cnts l := by
  induction l with
  | nil => cases h
  | cons a r ih =>
    simp only [T.cnts]
    rcases List.mem_cons.1 h with e | e
    · subst e; omega
    · have := ih e; omega
theorem cnts_len2 (l : List T) : l.length ≤ T.cnts l := by
  induction l with
  | nil => simp
  | cons a r ih => obtain ⟨v, n, ar⟩ := a; simp only [T.cnts, T.cnt, List.length_cons]; omega
def STerm (m : Nat) : Prop := ∀ (t u : T), t.cnt ≤ m → ∀ (σ : AState) (xs ys : List AV), DAtL σ.get t.dv xs → DAtL σ.get u.dv ys → RunF RR Tryz.prog n_kit_SameTerm [.agg xs, .agg ys] σ (fun v σ' => v = .bool (same t u) ∧ σ' = σ)
def STerms (m : Nat) : Prop := ∀ (l l' : List T), T.cnts l ≤ m → ∀ (σ : AState) (o o' : Option (Nat × Nat)) (n n' : Nat) (c c' : Option Nat) (z z' : Nat), Ts σ.get o n z l → Ts σ.get o' n' z' l' →
  RunF RR Tryz.prog n_kit_SameTerms [.slice o n c z, .slice o' n' c' z'] σ (fun v σ' => v = .bool (same l l') ∧ σ' = σ)
theorem sameTerms_of {m : Nat} (hm : m ≤ 1099511627776) (ih : STerm m) : STerms m := by
  intro l l' hc σ o o' n n' c c' z z' h h'
  refine runF_intro hmx rf_kit_SameTerms ?_
  have hn := h.1
  have hn' := h'.1
  have hcl := cnts_len2 l
  by_cases hl : n = n'
  · subst hl
    have d1 : ((n : Int) != (n : Int)) = false := bne_self_eq_false _
    simp -implicitDefEqProofs (maxDischargeDepth := 15) only [↓reduceIte, Yr, Ys, Yt, Wa, Wg, Wj, Wk, Wl, Wm, Wo, opA, Wv, Ww, Wx, Wy, Wz, Za, Zb, List.replicate, Zc, Zd, Ze, Vb, Zf, Zg, Nat.reduceAdd, Nat.reduceSub, Zk, binA, Yk, eq_self, i_kit_SameTerms, c88_0, c88_1, c88_2, c88_3, c88_4, c88_5, c88_6, c88_7, c88_8, c88_9, c88_10, c88_11, c88_12, c88_13, c88_14, c88_15]
    refine wp_loopK (fun ts σ' m => ∃ i : Nat, i + m = n ∧ σ' = σ ∧ l.take i = l'.take i ∧ ∃ j2 j3 j4 j6 j7 j8 j9 j10 j11 j12 j13 j14 j15 j16 j17 j18 j19 j20 j21 j22 j23 j24 j25 j26 : AV, ts = [.slice o n c z, .slice o' n c' z', j2, j3, j4, .int .i64 i, j6, j7, j8, j9, j10, j11, j12, j13, j14, j15, j16, j17, j18, j19, j20, j21, j22, j23, j24, j25, j26]) n ⟨0, by omega, rfl, rfl, _, _, _, _, _, _, _, _, _, _, _, _, _, _, _, _, _, _, _, _, _, _, _, _, rfl⟩ ?_
    rintro m' ts σ' ⟨i, hi, rfl, ht, j2, j3, j4, j6, j7, j8, j9, j10, j11, j12, j13, j14, j15, j16, j17, j18, j19, j20, j21, j22, j23, j24, j25, j26, rfl⟩
    by_cases hlt : i < n
    · obtain ⟨x, hx, hxm⟩ := get_lt (l := l) (k := i) (by omega)
      obtain ⟨y, hy, _⟩ := get_lt (l := l') (k := i) (by omega)
      obtain ⟨rfl, ib, off, cs, w, rfl, hg, hle, xs, he, hdx⟩ := h.elem hx
      obtain ⟨rfl, ib', off', cs', w', rfl, hg', hle', ys, he', hdy⟩ := h'.elem hy
      have d2 : decide ((i : Int) < (n : Int)) = true := decide_eq_true (by omega)
      have e1 : (0 : Int) ≤ (i : Int) ∧ (i : Int) < (n : Int) := by omega
      have w1 : wrapF .i64 ((i : Int) + 1) = ((i + 1 : Nat) : Int) := by rw [wrap_i64 (by omega)]; rfl
      simp -implicitDefEqProofs (maxDischargeDepth := 15) only [↓reduceIte, Yr, Ys, Yt, Yz, Wb, Wg, Wj, Wk, Wl, Wm, Wo, opA, Wv, Ww, Wx, Wy, Wz, Za, Zb, Vb, partA, Zh, Zi, binA, and_self, Yf, eq_self, Yp, e1, hg, he, hle, hg', he', hle']
      have hxc := cnt_mem hxm
      refine RunV.to (ih x y (by omega) _ xs ys hdx hdy) ?_
      by_cases q : x = y
      · subst q
        rw [same_t rfl]
        simp -implicitDefEqProofs (maxDischargeDepth := 15) only [↓reduceIte, Yr, Ys, Yt, Wa, Wg, Wj, Wl, Wo, Wr, Wu, opA, Wv, Ww, Wx, Wy, Wz, Za, Zb, Vb, binA, true_and, Yb, eq_self, w1, lk_n]
        exact ⟨m' - 1, by omega, i + 1, by omega, take_ext ht hx hy, _, _, _, _, _, _, _, _, _, _, _, _, _, _, _, _, _, _, _, _, _, _, _, _, rfl⟩
      · rw [same_f q]
        simp -implicitDefEqProofs (maxDischargeDepth := 15) only [Yr, Ys, Yt, Yz, Wh, Wj, Wk, Wl, Wo, Wq, Wt, Wu, opA, Wv, Ww, Wx, Wy, Wz, Za, Zb, Vb, and_true, EndOk, resultA, oneOf, Zz, Yc, eq_self, lk_r]
        rw [same_f (fun e => q (by rw [e] at hx; rw [hx] at hy; exact Option.some.inj hy))]
    · have d2 : decide ((i : Int) < (n : Int)) = false := decide_eq_false (by omega)
      simp -implicitDefEqProofs (maxDischargeDepth := 15) only [↓reduceIte, Yr, Ys, Yt, Wa, Wh, Wi, Wj, Wk, Wl, Wo, Wp, Ws, opA, Wv, Ww, Wx, Wy, Wz, Za, Zb, Vb, binA, and_true, EndOk, resultA, oneOf, Zz, eq_self, d2, lk_e]
      rw [same_t (by rw [List.take_of_length_le (by omega), List.take_of_length_le (by omega)] at ht; exact ht)]
  · have d1 : ((n : Int) != (n' : Int)) = true := bne_iff_ne.2 (by omega)
    simp -implicitDefEqProofs (maxDischargeDepth := 15) only [↓reduceIte, Yr, Ys, Yt, Yz, Wh, Wj, Wk, Wl, Wo, Wq, opA, Wv, Ww, Wx, Wy, Wz, Za, Zb, List.replicate, Zc, Zd, Ze, Vb, Zf, Zg, Nat.reduceAdd, Nat.reduceSub, Zk, binA, and_true, EndOk, resultA, oneOf, Zz, eq_self, i_kit_SameTerms, c88_0, c88_1, c88_2, c88_3, c88_4, c88_5, c88_6, c88_7, c88_8, c88_9, c88_10, c88_11, c88_12, c88_13, c88_14, c88_15, d1]
    rw [same_f (fun e => hl (by rw [hn, hn', e]))]
theorem sameTerm_of {m : Nat} (ih : STerms m) : STerm (m + 1) := by
  intro t u hc σ xs ys hx hy
  refine RunV.wf fun hW => RunV.forget rfl ?_
  refine runF_intro hmx rf_kit_SameTerm ?_
  obtain ⟨v, n, ar⟩ := t
  obtain ⟨v', n', bs⟩ := u
  simp only [T.cnt] at hc
  obtain ⟨o, c, z, rfl, h⟩ := T.cells hx
  obtain ⟨o', c', z', rfl, h'⟩ := T.cells hy
  have hs1 := sub_push hW (.cells [.bool v, .str n, .slice o ar.length c z] true)
  have hW1 := hW.push (.cells [.bool v, .str n, .slice o ar.length c z] true)
  have hs2 := sub_push hW1 (.cells [.bool v', .str n', .slice o' bs.length c' z'] true)
  have h2 := (h.sub hs1).sub hs2
  have hs := hs1.trans hs2
  have h2' := (h'.sub hs1).sub hs2
  by_cases q1 : v = v'
  · have b1 : (v == v') = true := beq_iff_eq.2 q1
    by_cases q2 : n = n'
    · have b2 : (n == n') = true := beq_iff_eq.2 q2
      simp -implicitDefEqProofs (maxDischargeDepth := 15) only [↓reduceIte, Yr, Ys, Yt, Yv, Wb, Wd, We, Wj, Wk, Wo, opA, Wv, Ww, Wx, Wy, Wz, Za, Zb, List.replicate, Zc, Zd, Ze, Vb, Vc, Vd, AV.cells, Vg, Vh, Vi, partA, Zf, Zg, Zh, Zi, Nat.reduceAdd, Nat.reduceSub, Zk, Zl, Zq, Zr, binA, eqA, kEq, Yd, Vu, Vv, Yj, eq_self, i_kit_SameTerm, c93_0, c93_1, c93_2, b1, b2]
      refine RunV.to (ih ar bs (by omega) _ _ _ _ _ _ _ _ _ h2 h2') ?_
      simp -implicitDefEqProofs (maxDischargeDepth := 15) only [↓reduceIte, Yr, Ys, Yt, Wh, Wo, Wu, opA, Wv, Wx, Wy, Wz, Za, Zb, Vb, EndOk, resultA, oneOf, Zz, eq_self]
      by_cases q3 : ar = bs
      · rw [same_t q3, same_t (by rw [q1, q2, q3])]; exact ⟨rfl, hs⟩
      · rw [same_f q3, same_f (fun e => q3 (by injection e))]; exact ⟨rfl, hs⟩
    · have b2 : (n == n') = false := beq_eq_false_iff_ne.2 q2
      simp -implicitDefEqProofs (maxDischargeDepth := 15) only [↓reduceIte, Yr, Ys, Yt, Yv, Yw, Wd, We, Wh, Wj, Wk, Wo, opA, Wv, Ww, Wx, Wy, Wz, Za, Zb, List.replicate, Zc, Zd, Ze, Vb, Vc, Vd, AV.cells, Vg, Vh, Vi, partA, Zf, Zg, Nat.reduceAdd, Nat.reduceSub, Zk, Zl, Zq, Zr, binA, eqA, kEq, EndOk, resultA, oneOf, Zz, Yd, Vu, Vv, Yj, eq_self, Vx, i_kit_SameTerm, c93_0, c93_1, c93_2, b1, b2]
      rw [same_f (fun e => q2 (by injection e))]; exact ⟨rfl, hs⟩
  · have b1 : (v == v') = false := beq_eq_false_iff_ne.2 q1
    simp -implicitDefEqProofs (maxDischargeDepth := 15) only [↓reduceIte, Yr, Ys, Yt, Yw, Wd, We, Wh, Wj, Wk, Wo, opA, Wv, Ww, Wx, Wy, Wz, Za, Zb, List.replicate, Zc, Zd, Ze, Vb, Vc, Vd, AV.cells, Vg, Vh, Vi, partA, Zf, Zg, Nat.reduceAdd, Nat.reduceSub, Zk, Zl, Zq, eqA, kEq, EndOk, resultA, oneOf, Zz, Yd, Vu, Vv, Vx, i_kit_SameTerm, c93_0, c93_1, c93_2, b1]
    rw [same_f (fun e => q1 (by injection e))]; exact ⟨rfl, hs⟩
theorem same_terms : ∀ m, m ≤ 1099511627776 → STerm m ∧ STerms m := by
  intro m
  induction m with
  | zero =>
    intro h
    have : STerm 0 := fun t u hc => by obtain ⟨v, n, ar⟩ := t; simp only [T.cnt] at hc; omega
    exact ⟨this, sameTerms_of h this⟩
  | succ m ih =>
    intro h
    have := sameTerm_of (ih (by omega)).2
    exact ⟨this, sameTerms_of h this⟩
end Go.Am
namespace Go.Am
open Go.RowKit Go.Proofs Do
set_option maxRecDepth 100000
abbrev byT : AV := .func (.func n_syntax_byTerm) [] []
def CTerm (m : Nat) : Prop := ∀ (t u : T), t.cnt ≤ m → ∀ (σ : AState) (xs ys : List AV), DAtL σ.get t.dv xs → DAtL σ.get u.dv ys → RunV RR Tryz.prog byT [.agg xs, .agg ys] σ (fun v σ' => ZeroIff (t = u) v ∧ σ' = σ)
set_option maxHeartbeats 2000000 in
theorem cmpFT_of {m : Nat} (hm : m ≤ 1099511627776) (ih : CTerm m) (l l' : List T) (hc : T.cnts l ≤ m) (σ : AState) (o o' : Option (Nat × Nat)) (n : Nat) (c c' : Option Nat) (z z' : Nat) (h : Ts σ.get o n z l) (h' : Ts σ.get o' n z' l') :
    RunF RR Tryz.prog n_slices_CompareFunc_api_Term_api_Term [.slice o n c z, .slice o' n c' z', byT] σ (fun v σ' => ZeroIff (l = l') v ∧ σ' = σ) := by
  refine RunV.wf fun hW => RunV.forgetP ZeroIff.flat ?_
  refine runF_intro hmx rf_slices_CompareFunc_api_Term_api_Term ?_
  have hn := h.1
  have hn' := h'.1
  have hcl := cnts_len2 l
  simp -implicitDefEqProofs (maxDischargeDepth := 15) only [Yr, Ys, Yt, Wj, Wk, Wm, Wo, opA, Wv, Ww, Wx, Wy, Wz, Za, Zb, List.replicate, Zc, Zd, Ze, Vb, Zf, Zg, Nat.reduceAdd, Nat.reduceSub, Zk, i_slices_CompareFunc_api_Term_api_Term, c31_0, c31_1, c31_2, c31_3, c31_4, c31_5, c31_6, c31_7, c31_8, c31_9, c31_10, c31_11, c31_12, c31_13, c31_14, c31_15, c31_16, c31_17, c31_18, c31_19, c31_20, c31_21]
  refine wp_loopK (fun ts σ' m => ∃ i : Nat, i + m = n ∧ Grow σ σ' ∧ l.take i = l'.take i ∧ ∃ j3 j4 j5 j6 j7 j8 j9 j10 j14 j15 j16 j17 j18 j19 j20 j21 j22 j23 j24 j25 j26 j27 j28 j29 j30 j31 j32 j33 j34 j35 j36 j37 j38 : AV, ts = [.slice o n c z, .slice o' n c' z', byT, j3, j4, j5, j6, j7, j8, j9, j10, .slice o n c z, .int .i64 n, .int .i64 i, j14, j15, j16, j17, j18, j19, j20, j21, j22, j23, j24, j25, j26, j27, j28, j29, j30, j31, j32, j33, j34, j35, j36, j37, j38]) n ⟨0, by omega, Grow.refl hW, rfl, _, _, _, _, _, _, _, _, _, _, _, _, _, _, _, _, _, _, _, _, _, _, _, _, _, _, _, _, _, _, _, _, _, rfl⟩ ?_
  rintro m' ts σ' ⟨i, hi, hG, ht, j3, j4, j5, j6, j7, j8, j9, j10, j14, j15, j16, j17, j18, j19, j20, j21, j22, j23, j24, j25, j26, j27, j28, j29, j30, j31, j32, j33, j34, j35, j36, j37, j38, rfl⟩
  by_cases hlt : i < n
  · obtain ⟨x, hx, hxm⟩ := get_lt (l := l) (k := i) (by omega)
    obtain ⟨y, hy, _⟩ := get_lt (l := l') (k := i) (by omega)
    obtain ⟨rfl, ib, off, cs, w, rfl, hg, hle, xs, he, hdx⟩ := (h.sub hG.sub).elem hx
    obtain ⟨rfl, ib', off', cs', w', rfl, hg', hle', ys, he', hdy⟩ := (h'.sub hG.sub).elem hy
    have hxc := cnt_mem hxm
    have hcx := ih x y (by omega)
    have hiy := hG.wf.lt hg'
    obtain ⟨v, nm, ar⟩ := x
    obtain ⟨v', nm', ar'⟩ := y
    have hdx0 := hdx
    have hdy0 := hdy
    obtain ⟨o1, c1, z1, rfl, _⟩ := T.cells hdx
    obtain ⟨o2, c2, z2, rfl, _⟩ := T.cells hdy
    have d2 : decide ((i : Int) < (n : Int)) = true := decide_eq_true (by omega)
    have d3 : decide ((i : Int) ≥ (n : Int)) = false := decide_eq_false (by omega)
    have e1 : (0 : Int) ≤ (i : Int) ∧ (i : Int) < (n : Int) := by omega
    have w1 : wrapF .i64 ((i : Int) + 1) = ((i + 1 : Nat) : Int) := by rw [wrap_i64 (by omega)]; rfl
    simp -implicitDefEqProofs (maxDischargeDepth := 15) only [↓reduceIte, Yr, Ys, Yt, Yz, Wa, Wb, Wg, Wj, Wk, Wl, Wm, Wo, opA, Wv, Wx, Wy, Wz, Va, Za, Zb, Zd, Ze, Vb, Vc, Vd, Ve, AV.cells, Vg, Vh, Vi, Vn, partA, Zf, Zg, Zh, Zi, Nat.reduceAdd, Zj, Zk, Zm, Zn, Zo, Zp, Zs, Zt, binA, putL, allOne, Zu, Zv, AV.one, Zy, and_self, Yf, eq_self, Yp, d3, e1, hg, he, hle, hg', he', hle', hiy]
    have hG1 := (hG.push (.cells [.bool v, .str nm, .slice o1 ar.length c1 z1] true)).push (.cells [.bool v', .str nm', .slice o2 ar'.length c2 z2] true)
    have hs1 := (sub_push hG.wf (.cells [.bool v, .str nm, .slice o1 ar.length c1 z1] true)).trans (sub_push (hG.wf.push _) (.cells [.bool v', .str nm', .slice o2 ar'.length c2 z2] true))
    refine (hcx _ _ _ (DAtL.sub hs1 _ _ hdx0) (DAtL.sub hs1 _ _ hdy0)).mono ?_
    rintro u σ2 ⟨⟨r, rfl, hr⟩, rfl⟩
    by_cases q : r = 0
    · have d4 : (r != 0) = false := by rw [q]; rfl
      simp -implicitDefEqProofs (maxDischargeDepth := 15) only [↓reduceIte, Yr, Ys, Yt, Wa, Wg, Wj, Wk, Wl, Wo, Wr, Wu, opA, Wv, Ww, Wx, Wy, Wz, Za, Zb, Vb, binA, eq_self, d4, w1, lk_n]
      exact ⟨m' - 1, by omega, i + 1, by omega, hG1, take_ext ht hx (by rw [hr.1 q]; exact hy), _, _, _, _, _, _, _, _, _, _, _, _, _, _, _, _, _, _, _, _, _, _, _, _, _, _, _, _, _, _, _, _, _, rfl⟩
    · have d4 : (r != 0) = true := bne_iff_ne.2 q
      simp -implicitDefEqProofs (maxDischargeDepth := 15) only [↓reduceIte, Yr, Ys, Yt, Yz, Wh, Wj, Wk, Wl, Wo, Wq, Wt, Wu, opA, Wv, Ww, Wx, Wy, Wz, Za, Zb, Vb, binA, EndOk, resultA, oneOf, Zz, eq_self, d4, lk_r]
      refine ⟨⟨r, rfl, fun h => absurd h q, fun e => ?_⟩, hG1.sub⟩
      refine hr.2 ?_
      rw [e] at hx; rw [hx] at hy; exact Option.some.inj hy
  · have d2 : decide ((i : Int) < (n : Int)) = false := decide_eq_false (by omega)
    have d3 : decide ((n : Int) < (n : Int)) = false := decide_eq_false (by omega)
    simp -implicitDefEqProofs (maxDischargeDepth := 15) only [↓reduceIte, Yr, Ys, Yt, Wa, Wg, Wh, Wi, Wj, Wk, Wl, Wo, Wp, Ws, opA, Wv, Ww, Wx, Wy, Wz, Za, Zb, Vb, binA, EndOk, resultA, oneOf, Zz, eq_self, d2, d3, lk_e]
    rw [List.take_of_length_le (by omega), List.take_of_length_le (by omega)] at ht
    exact ⟨⟨0, rfl, fun _ => ht, fun _ => rfl⟩, hG.sub⟩
end Go.Am
namespace Go.Am
open Go.RowKit Go.Proofs Do
set_option maxRecDepth 100000
theorem listsT_of {m : Nat} (hm : m ≤ 1099511627776) (ih : CTerm m) (l l' : List T) (hc : T.cnts l ≤ m) (σ : AState) (o o' : Option (Nat × Nat)) (n n' : Nat) (c c' : Option Nat) (z z' : Nat) (h : Ts σ.get o n z l) (h' : Ts σ.get o' n' z' l') :
    RunF RR Tryz.prog n_syntax_lists_api_Term [.slice o n c z, .slice o' n' c' z', byT] σ (fun v σ' => ZeroIff (l = l') v ∧ σ' = σ) := by
  refine runF_intro hmx rf_syntax_lists_api_Term ?_
  have hn := h.1
  have hn' := h'.1
  by_cases hl : n = n'
  · subst hl
    have d1 : ((n : Int) != (n : Int)) = false := bne_self_eq_false _
    simp -implicitDefEqProofs (maxDischargeDepth := 15) only [↓reduceIte, Yr, Ys, Yt, Wa, Wb, Wg, Wj, Wk, Wl, Wo, opA, Wv, Ww, Wx, Wy, Wz, Za, Zb, List.replicate, Zc, Zd, Ze, Vb, Zf, Zg, Zh, Zi, Nat.reduceAdd, Nat.reduceSub, Zk, binA, Yk, eq_self, i_syntax_lists_api_Term, c42_0, c42_1, c42_2, c42_3, c42_4, c42_5, c42_6]
    refine (cmpFT_of hm ih l l' hc _ _ _ _ _ _ _ _ h h').mono ?_
    rintro u σ2 ⟨⟨r, rfl, hr⟩, rfl⟩
    simp -implicitDefEqProofs (maxDischargeDepth := 15) only [Yr, Ys, Yt, Wh, Wo, Wu, opA, Wv, Wx, Wy, Wz, Za, Zb, Vb, and_true, EndOk, resultA, oneOf, Zz, eq_self]
    exact ⟨r, rfl, hr⟩
  · have d1 : ((n : Int) != (n' : Int)) = true := bne_iff_ne.2 (by omega)
    simp -implicitDefEqProofs (maxDischargeDepth := 15) only [↓reduceIte, Yr, Ys, Yt, Yz, Wb, Wj, Wk, Wl, Wo, opA, Wv, Ww, Wx, Wy, Wz, Za, Zb, List.replicate, Zc, Zd, Ze, Vb, Zf, Zg, Zh, Zi, Nat.reduceAdd, Nat.reduceSub, Zk, binA, eq_self, i_syntax_lists_api_Term, c42_0, c42_1, c42_2, c42_3, c42_4, c42_5, c42_6, d1]
    refine (cmpI_ok n n' _).mono ?_
    rintro u σ2 ⟨⟨r, rfl, hr⟩, rfl⟩
    simp -implicitDefEqProofs (maxDischargeDepth := 15) only [Yr, Ys, Yt, Wh, Wo, Wq, Wu, opA, Wv, Wx, Wy, Wz, Za, Zb, Vb, and_true, EndOk, resultA, oneOf, Zz, eq_self]
    refine ⟨r, rfl, fun q => absurd (Int.ofNat_inj.1 (hr.1 q)) hl, fun e => ?_⟩
    exact absurd (by rw [hn, hn', e]) hl
end Go.Am
namespace Go.Am
open Go.RowKit Go.Proofs Do
set_option maxRecDepth 100000
set_option maxHeartbeats 2000000 in
theorem byTerm_of {m : Nat} (hm : m ≤ 1099511627776) (ih : CTerm m) : CTerm (m + 1) := by
  intro t u hc σ xs ys hx hy
  refine RunV.wf fun hW => RunV.forgetP ZeroIff.flat ?_
  refine runF_intro hmx rf_syntax_byTerm ?_
  obtain ⟨v, nm, ar⟩ := t
  obtain ⟨v', nm', ar'⟩ := u
  simp only [T.cnt] at hc
  obtain ⟨o1, c1, z1, rfl, h⟩ := T.cells hx
  obtain ⟨o2, c2, z2, rfl, h'⟩ := T.cells hy
  have hs1 := sub_push hW (.cells [.bool v, .str nm, .slice o1 ar.length c1 z1] true)
  have hW1 := hW.push (.cells [.bool v, .str nm, .slice o1 ar.length c1 z1] true)
  have hs2 := sub_push hW1 (.cells [.bool v', .str nm', .slice o2 ar'.length c2 z2] true)
  have hW2 := hW1.push (.cells [.bool v', .str nm', .slice o2 ar'.length c2 z2] true)
  have hs := hs1.trans hs2
  have key : ∀ (Q : Prop), v = v' → Q → Q := fun _ _ q => q
  cases v <;> cases v'
  case false.true =>
    simp -implicitDefEqProofs (maxDischargeDepth := 15) only [↓reduceIte, Yr, Ys, Yt, Yv, Yw, Yz, Wa, Wd, Wh, Wj, Wk, Wl, Wm, Wo, Wq, Wt, opA, Wv, Ww, Wx, Wy, Wz, Za, Zb, List.replicate, Zc, Zd, Ze, Vb, Vc, Vd, AV.cells, Vg, Vh, Vi, partA, Zf, Zg, Nat.reduceAdd, Nat.reduceSub, Zk, Zl, Zq, EndOk, resultA, oneOf, Zz, Yc, Yd, Vu, Vv, Yj, eq_self, Vx, i_syntax_byTerm, c86_0, c86_1, c86_2, c86_3, c86_4, c86_5, c86_6, c86_7, c86_8, c86_9, c86_10, c86_11]
    exact ⟨⟨1, rfl, by simp⟩, hs⟩
  case true.false =>
    simp -implicitDefEqProofs (maxDischargeDepth := 15) only [↓reduceIte, Yr, Ys, Yt, Yv, Yz, Wd, Wh, Wj, Wk, Wl, Wm, Wo, Wq, Wt, opA, Wv, Ww, Wx, Wy, Wz, Za, Zb, List.replicate, Zc, Zd, Ze, Vb, Vc, Vd, AV.cells, Vg, Vh, Vi, partA, Zf, Zg, Nat.reduceAdd, Nat.reduceSub, Zk, Zl, Zq, EndOk, resultA, oneOf, Zz, Yc, Vu, Vv, Yj, eq_self, i_syntax_byTerm, c86_0, c86_1, c86_2, c86_3, c86_4, c86_5, c86_6, c86_7, c86_8, c86_9, c86_10, c86_11]
    exact ⟨⟨-1, rfl, by simp⟩, hs⟩
  all_goals
    simp -implicitDefEqProofs (maxDischargeDepth := 15) only [↓reduceIte, Yr, Ys, Yt, Yv, Yw, Wa, Wb, Wd, Wg, Wj, Wk, Wl, Wm, Wo, Wr, opA, Wv, Ww, Wx, Wy, Wz, Za, Zb, List.replicate, Zc, Zd, Ze, Vb, Vc, Vd, AV.cells, Vg, Vh, Vi, partA, Zf, Zg, Zh, Zi, Nat.reduceAdd, Nat.reduceSub, Zk, Zl, Zq, Zr, Yb, Yd, Vu, Vv, Yj, eq_self, Vx, i_syntax_byTerm, c86_0, c86_1, c86_2, c86_3, c86_4, c86_5, c86_6, c86_7, c86_8, c86_9, c86_10, c86_11]
    refine (cmpS_ok nm nm' _).mono ?_
    rintro u σ2 ⟨⟨r1, rfl, hr1⟩, rfl⟩
    simp -implicitDefEqProofs (maxDischargeDepth := 15) only [Wb, Wc, Wu, opA, Wv, Ww, Wx, Wy, Wz, Za, Zb, Vg, Vh, Vi, partA, Zh, Zi, Zq, Zr, true_and, againOk, eq_self]
    refine (listsT_of hm ih ar ar' (by omega) _ _ _ _ _ _ _ _ _ ((h.sub hs1).sub hs2) ((h'.sub hs1).sub hs2)).mono ?_
    rintro u σ3 ⟨⟨r2, rfl, hr2⟩, rfl⟩
    simp -implicitDefEqProofs (maxDischargeDepth := 15) only [↓reduceIte, Ys, Yt, Wb, Wu, opA, Wv, Ww, Wx, Wy, Wz, Za, Zb, Zc, Zd, Ze, Vb, Vc, Vd, AV.cells, Zf, Zg, Zh, Zi, Nat.reduceAdd, Nat.reduceLeDiff, Zj, Zk, Zm, Zn, Zo, Zp, Zs, fillA, and_self, eq_self]
    refine (or_ok (rs := [r1, r2]) (n := 2) Vg rfl (by omega)).mono ?_
    rintro u σ4 ⟨⟨r, rfl, hr⟩, rfl⟩
    simp -implicitDefEqProofs (maxDischargeDepth := 15) only [Yr, Ys, Yt, Wh, Wo, Wu, opA, Wv, Wx, Wy, Wz, Za, Zb, Vb, Zh, Zi, EndOk, resultA, oneOf, Zz]
    refine ⟨⟨r, rfl, ?_⟩, hs.trans (sub_push hW2 _)⟩
    rw [hr]
    simp [hr1, hr2]
end Go.Am
namespace Go.Am
open Go.RowKit Go.Proofs Do
set_option maxRecDepth 100000
theorem byTerm_all : ∀ m, m ≤ 1099511627776 → CTerm m := by
  intro m
  induction m with
  | zero => exact fun _ t u hc => by obtain ⟨v, n, ar⟩ := t; simp only [T.cnt] at hc; omega
  | succ m ih => exact fun h => byTerm_of (by omega) (ih (by omega))
theorem listsT_ok (l l' : List T) (hc : T.cnts l ≤ 1099511627776) (σ : AState) (o o' : Option (Nat × Nat)) (n n' : Nat) (c c' : Option Nat) (z z' : Nat) (h : Ts σ.get o n z l) (h' : Ts σ.get o' n' z' l') :
    RunF RR Tryz.prog n_syntax_lists_api_Term [.slice o n c z, .slice o' n' c' z', byT] σ (fun v σ' => ZeroIff (l = l') v ∧ σ' = σ) :=
  listsT_of hc (byTerm_all _ hc) l l' (Nat.le_refl _) σ o o' n n' c c' z z' h h'
end Go.Am
namespace Go.Am
open Go.RowKit Go.Proofs Do
set_option maxRecDepth 100000
def SForm (m : Nat) : Prop := ∀ (t u : F), t.nodes ≤ m → ∀ (σ : AState) (xs ys : List AV), DAtL σ.get t.dv xs → DAtL σ.get u.dv ys → RunF RR Tryz.prog n_kit_SameForm [.agg xs, .agg ys] σ (fun v σ' => v = .bool (same t u) ∧ σ' = σ)
def SForms (m : Nat) : Prop := ∀ (l l' : List F), F.nodess l ≤ m → ∀ (σ : AState) (o o' : Option (Nat × Nat)) (n n' : Nat) (c c' : Option Nat) (z z' : Nat), Fs σ.get o n z l → Fs σ.get o' n' z' l' →
  RunF RR Tryz.prog n_kit_SameForms [.slice o n c z, .slice o' n' c' z'] σ (fun v σ' => v = .bool (same l l') ∧ σ' = σ)
theorem sameForms_of {m : Nat} (hm : m ≤ 1099511627776) (ih : SForm m) : SForms m := by
  intro l l' hc σ o o' n n' c c' z z' h h'
  refine runF_intro hmx rf_kit_SameForms ?_
  have hn := h.1
  have hn' := h'.1
  have hcl := nodess_len l
  by_cases hl : n = n'
  · subst hl
    have d1 : ((n : Int) != (n : Int)) = false := bne_self_eq_false _
    simp -implicitDefEqProofs (maxDischargeDepth := 15) only [↓reduceIte, Yr, Ys, Yt, Wa, Wg, Wj, Wk, Wl, Wm, Wo, opA, Wv, Ww, Wx, Wy, Wz, Za, Zb, List.replicate, Zc, Zd, Ze, Vb, Zf, Zg, Nat.reduceAdd, Nat.reduceSub, Zk, binA, Yk, eq_self, i_kit_SameForms, c6_0, c6_1, c6_2, c6_3, c6_4, c6_5, c6_6, c6_7, c6_8, c6_9, c6_10, c6_11, c6_12, c6_13, c6_14, c6_15]
    refine wp_loopK (fun ts σ' m => ∃ i : Nat, i + m = n ∧ σ' = σ ∧ l.take i = l'.take i ∧ ∃ j2 j3 j4 j6 j7 j8 j9 j10 j11 j12 j13 j14 j15 j16 j17 j18 j19 j20 j21 j22 j23 j24 j25 j26 : AV, ts = [.slice o n c z, .slice o' n c' z', j2, j3, j4, .int .i64 i, j6, j7, j8, j9, j10, j11, j12, j13, j14, j15, j16, j17, j18, j19, j20, j21, j22, j23, j24, j25, j26]) n ⟨0, by omega, rfl, rfl, _, _, _, _, _, _, _, _, _, _, _, _, _, _, _, _, _, _, _, _, _, _, _, _, rfl⟩ ?_
    rintro m' ts σ' ⟨i, hi, rfl, ht, j2, j3, j4, j6, j7, j8, j9, j10, j11, j12, j13, j14, j15, j16, j17, j18, j19, j20, j21, j22, j23, j24, j25, j26, rfl⟩
    by_cases hlt : i < n
    · obtain ⟨x, hx, hxm⟩ := get_lt (l := l) (k := i) (by omega)
      obtain ⟨y, hy, _⟩ := get_lt (l := l') (k := i) (by omega)
      obtain ⟨rfl, ib, off, cs, w, rfl, hg, hle, xs, he, hdx⟩ := h.elem hx
      obtain ⟨rfl, ib', off', cs', w', rfl, hg', hle', ys, he', hdy⟩ := h'.elem hy
      have d2 : decide ((i : Int) < (n : Int)) = true := decide_eq_true (by omega)
      have e1 : (0 : Int) ≤ (i : Int) ∧ (i : Int) < (n : Int) := by omega
      have w1 : wrapF .i64 ((i : Int) + 1) = ((i + 1 : Nat) : Int) := by rw [wrap_i64 (by omega)]; rfl
      simp -implicitDefEqProofs (maxDischargeDepth := 15) only [↓reduceIte, Yr, Ys, Yt, Yz, Wb, Wg, Wj, Wk, Wl, Wm, Wo, opA, Wv, Ww, Wx, Wy, Wz, Za, Zb, Vb, partA, Zh, Zi, binA, and_self, Yf, eq_self, Yp, e1, hg, he, hle, hg', he', hle']
      have hxc := nodes_mem hxm
      refine RunV.to (ih x y (by omega) _ xs ys hdx hdy) ?_
      by_cases q : x = y
      · subst q
        rw [same_t rfl]
        simp -implicitDefEqProofs (maxDischargeDepth := 15) only [↓reduceIte, Yr, Ys, Yt, Wa, Wg, Wj, Wl, Wo, Wr, Wu, opA, Wv, Ww, Wx, Wy, Wz, Za, Zb, Vb, binA, true_and, Yb, eq_self, w1, lk_n]
        exact ⟨m' - 1, by omega, i + 1, by omega, take_ext ht hx hy, _, _, _, _, _, _, _, _, _, _, _, _, _, _, _, _, _, _, _, _, _, _, _, _, rfl⟩
      · rw [same_f q]
        simp -implicitDefEqProofs (maxDischargeDepth := 15) only [Yr, Ys, Yt, Yz, Wh, Wj, Wk, Wl, Wo, Wq, Wt, Wu, opA, Wv, Ww, Wx, Wy, Wz, Za, Zb, Vb, and_true, EndOk, resultA, oneOf, Zz, Yc, eq_self, lk_r]
        rw [same_f (fun e => q (by rw [e] at hx; rw [hx] at hy; exact Option.some.inj hy))]
    · have d2 : decide ((i : Int) < (n : Int)) = false := decide_eq_false (by omega)
      simp -implicitDefEqProofs (maxDischargeDepth := 15) only [↓reduceIte, Yr, Ys, Yt, Wa, Wh, Wi, Wj, Wk, Wl, Wo, Wp, Ws, opA, Wv, Ww, Wx, Wy, Wz, Za, Zb, Vb, binA, and_true, EndOk, resultA, oneOf, Zz, eq_self, d2, lk_e]
      rw [same_t (by rw [List.take_of_length_le (by omega), List.take_of_length_le (by omega)] at ht; exact ht)]
  · have d1 : ((n : Int) != (n' : Int)) = true := bne_iff_ne.2 (by omega)
    simp -implicitDefEqProofs (maxDischargeDepth := 15) only [↓reduceIte, Yr, Ys, Yt, Yz, Wh, Wj, Wk, Wl, Wo, Wq, opA, Wv, Ww, Wx, Wy, Wz, Za, Zb, List.replicate, Zc, Zd, Ze, Vb, Zf, Zg, Nat.reduceAdd, Nat.reduceSub, Zk, binA, and_true, EndOk, resultA, oneOf, Zz, eq_self, i_kit_SameForms, c6_0, c6_1, c6_2, c6_3, c6_4, c6_5, c6_6, c6_7, c6_8, c6_9, c6_10, c6_11, c6_12, c6_13, c6_14, c6_15, d1]
    rw [same_f (fun e => hl (by rw [hn, hn', e]))]
theorem sameForm_of {m : Nat} (hm : m + 1 ≤ 1099511627776) (ih : SForms m) : SForm (m + 1) := by
  intro t u hc σ xs ys hx hy
  refine RunV.wf fun hW => RunV.forget rfl ?_
  refine runF_intro hmx rf_kit_SameForm ?_
  obtain ⟨v, n, ar, l⟩ := t
  obtain ⟨v', n', bs, l'⟩ := u
  simp only [F.nodes] at hc
  obtain ⟨o, c, z, o2, c2, z2, rfl, h, hl⟩ := F.cells hx
  obtain ⟨o', c', z', o2', c2', z2', rfl, h', hl'⟩ := F.cells hy
  have hs1 := sub_push hW (.cells [.int .u8 v, .str n, .slice o ar.length c z, .slice o2 l.length c2 z2] true)
  have hW1 := hW.push (.cells [.int .u8 v, .str n, .slice o ar.length c z, .slice o2 l.length c2 z2] true)
  have hs2 := sub_push hW1 (.cells [.int .u8 v', .str n', .slice o' bs.length c' z', .slice o2' l'.length c2' z2'] true)
  have h2 := (h.sub hs1).sub hs2
  have hs := hs1.trans hs2
  have h2' := (h'.sub hs1).sub hs2
  have hl2 := (hl.sub hs1).sub hs2
  have hl2' := (hl'.sub hs1).sub hs2
  by_cases q1 : v = v'
  · have b1 : ((v : Int) == (v' : Int)) = true := by rw [q1]; exact beq_self_eq_true _
    by_cases q2 : n = n'
    · have b2 : (n == n') = true := beq_iff_eq.2 q2
      simp -implicitDefEqProofs (maxDischargeDepth := 15) only [↓reduceIte, Yr, Ys, Yt, Yv, Wb, Wd, We, Wj, Wk, Wo, opA, Wv, Ww, Wx, Wy, Wz, Za, Zb, List.replicate, Zc, Zd, Ze, Vb, Vc, Vd, AV.cells, Vg, Vh, Vi, partA, Zf, Zg, Zh, Zi, Nat.reduceAdd, Nat.reduceSub, Zk, Zl, Zq, Zr, binA, Vu, Vv, Yj, eq_self, i_kit_SameForm, c40_0, c40_1, c40_2, c40_3, b1, b2]
      refine RunV.to ((same_terms (T.cnts ar) (by omega)).2 ar bs (Nat.le_refl _) _ _ _ _ _ _ _ _ _ h2 h2') ?_
      by_cases q3 : ar = bs
      · rw [same_t q3]
        simp -implicitDefEqProofs (maxDischargeDepth := 15) only [↓reduceIte, Ys, Yt, Yv, Wb, Wd, We, Wu, opA, Wv, Ww, Wx, Wy, Wz, Za, Zb, Vb, Vg, Vh, Vi, partA, Zh, Zi, Zk, Zq, Zr, Vu, Vv, Yj, eq_self]
        refine RunV.to (ih l l' (by omega) _ _ _ _ _ _ _ _ _ hl2 hl2') ?_
        simp -implicitDefEqProofs (maxDischargeDepth := 15) only [↓reduceIte, Yr, Ys, Yt, Wh, Wo, Wu, opA, Wv, Wx, Wy, Wz, Za, Zb, Vb, EndOk, resultA, oneOf, Zz, eq_self]
        by_cases q4 : l = l'
        · rw [same_t q4, same_t (by rw [q1, q2, q3, q4])]; exact ⟨rfl, hs⟩
        · rw [same_f q4, same_f (fun e => q4 (by injection e))]; exact ⟨rfl, hs⟩
      · rw [same_f q3]
        simp -implicitDefEqProofs (maxDischargeDepth := 15) only [↓reduceIte, Yr, Ys, Yt, Yw, Wd, We, Wh, Wo, Wu, opA, Wv, Ww, Wx, Wy, Wz, Za, Zb, Vb, EndOk, resultA, oneOf, Zz, Yd, Vu, Vv, eq_self, Vx]
        rw [same_f (fun e => q3 (by injection e))]; exact ⟨rfl, hs⟩
    · have b2 : (n == n') = false := beq_eq_false_iff_ne.2 q2
      simp -implicitDefEqProofs (maxDischargeDepth := 15) only [↓reduceIte, Yr, Ys, Yt, Yv, Yw, Wd, We, Wh, Wj, Wk, Wo, opA, Wv, Ww, Wx, Wy, Wz, Za, Zb, List.replicate, Zc, Zd, Ze, Vb, Vc, Vd, AV.cells, Vg, Vh, Vi, partA, Zf, Zg, Nat.reduceAdd, Nat.reduceSub, Zk, Zl, Zq, Zr, binA, EndOk, resultA, oneOf, Zz, Yd, Vu, Vv, Yj, eq_self, Vx, i_kit_SameForm, c40_0, c40_1, c40_2, c40_3, b1, b2]
      rw [same_f (fun e => q2 (by injection e))]; exact ⟨rfl, hs⟩
  · have b1 : ((v : Int) == (v' : Int)) = false := beq_eq_false_iff_ne.2 (by omega)
    simp -implicitDefEqProofs (maxDischargeDepth := 15) only [↓reduceIte, Yr, Ys, Yt, Yw, Wd, We, Wh, Wj, Wk, Wo, opA, Wv, Ww, Wx, Wy, Wz, Za, Zb, List.replicate, Zc, Zd, Ze, Vb, Vc, Vd, AV.cells, Vg, Vh, Vi, partA, Zf, Zg, Nat.reduceAdd, Nat.reduceSub, Zk, Zl, Zq, binA, EndOk, resultA, oneOf, Zz, Yd, Vu, Vv, eq_self, Vx, i_kit_SameForm, c40_0, c40_1, c40_2, c40_3, b1]
    rw [same_f (fun e => q1 (by injection e))]; exact ⟨rfl, hs⟩
theorem same_forms : ∀ m, m ≤ 1099511627776 → SForm m ∧ SForms m := by
  intro m
  induction m with
  | zero =>
    intro h
    have : SForm 0 := fun t u hc => by obtain ⟨v, n, ar, l⟩ := t; simp only [F.nodes] at hc; omega
    exact ⟨this, sameForms_of h this⟩
  | succ m ih =>
    intro h
    have := sameForm_of h (ih (by omega)).2
    exact ⟨this, sameForms_of h this⟩
end Go.Am
namespace Go.Am
open Go.RowKit Go.Proofs Do
set_option maxRecDepth 100000
abbrev cmpF : AV := .func (.func n_syntax_Compare) [] []
def CForm (m : Nat) : Prop := ∀ (t u : F), t.nodes ≤ m → ∀ (σ : AState) (xs ys : List AV), DAtL σ.get t.dv xs → DAtL σ.get u.dv ys → RunV RR Tryz.prog cmpF [.agg xs, .agg ys] σ (fun v σ' => ZeroIff (t = u) v ∧ σ' = σ)
set_option maxHeartbeats 2000000 in
theorem cmpFF_of {m : Nat} (hm : m ≤ 1099511627776) (ih : CForm m) (l l' : List F) (hc : F.nodess l ≤ m) (σ : AState) (o o' : Option (Nat × Nat)) (n : Nat) (c c' : Option Nat) (z z' : Nat) (h : Fs σ.get o n z l) (h' : Fs σ.get o' n z' l') :
    RunF RR Tryz.prog n_slices_CompareFunc_api_Form_api_Form [.slice o n c z, .slice o' n c' z', cmpF] σ (fun v σ' => ZeroIff (l = l') v ∧ σ' = σ) := by
  refine RunV.wf fun hW => RunV.forgetP ZeroIff.flat ?_
  refine runF_intro hmx rf_slices_CompareFunc_api_Form_api_Form ?_
  have hn := h.1
  have hn' := h'.1
  have hcl := nodess_len l
  simp -implicitDefEqProofs (maxDischargeDepth := 15) only [Yr, Ys, Yt, Wj, Wk, Wm, Wo, opA, Wv, Ww, Wx, Wy, Wz, Za, Zb, List.replicate, Zc, Zd, Ze, Vb, Zf, Zg, Nat.reduceAdd, Nat.reduceSub, Zk, i_slices_CompareFunc_api_Form_api_Form, c82_0, c82_1, c82_2, c82_3, c82_4, c82_5, c82_6, c82_7, c82_8, c82_9, c82_10, c82_11, c82_12, c82_13, c82_14, c82_15, c82_16, c82_17, c82_18, c82_19, c82_20, c82_21]
  refine wp_loopK (fun ts σ' m => ∃ i : Nat, i + m = n ∧ Grow σ σ' ∧ l.take i = l'.take i ∧ ∃ j3 j4 j5 j6 j7 j8 j9 j10 j14 j15 j16 j17 j18 j19 j20 j21 j22 j23 j24 j25 j26 j27 j28 j29 j30 j31 j32 j33 j34 j35 j36 j37 j38 : AV, ts = [.slice o n c z, .slice o' n c' z', cmpF, j3, j4, j5, j6, j7, j8, j9, j10, .slice o n c z, .int .i64 n, .int .i64 i, j14, j15, j16, j17, j18, j19, j20, j21, j22, j23, j24, j25, j26, j27, j28, j29, j30, j31, j32, j33, j34, j35, j36, j37, j38]) n ⟨0, by omega, Grow.refl hW, rfl, _, _, _, _, _, _, _, _, _, _, _, _, _, _, _, _, _, _, _, _, _, _, _, _, _, _, _, _, _, _, _, _, _, rfl⟩ ?_
  rintro m' ts σ' ⟨i, hi, hG, ht, j3, j4, j5, j6, j7, j8, j9, j10, j14, j15, j16, j17, j18, j19, j20, j21, j22, j23, j24, j25, j26, j27, j28, j29, j30, j31, j32, j33, j34, j35, j36, j37, j38, rfl⟩
  by_cases hlt : i < n
  · obtain ⟨x, hx, hxm⟩ := get_lt (l := l) (k := i) (by omega)
    obtain ⟨y, hy, _⟩ := get_lt (l := l') (k := i) (by omega)
    obtain ⟨rfl, ib, off, cs, w, rfl, hg, hle, xs, he, hdx⟩ := (h.sub hG.sub).elem hx
    obtain ⟨rfl, ib', off', cs', w', rfl, hg', hle', ys, he', hdy⟩ := (h'.sub hG.sub).elem hy
    have hxc := nodes_mem hxm
    have hcx := ih x y (by omega)
    have hiy := hG.wf.lt hg'
    obtain ⟨v, nm, ar, sb⟩ := x
    obtain ⟨v', nm', ar', sb'⟩ := y
    have hdx0 := hdx
    have hdy0 := hdy
    obtain ⟨o1, c1, z1, p1, d1, y1, rfl, _⟩ := F.cells hdx
    obtain ⟨o2, c2, z2, p2, d2', y2, rfl, _⟩ := F.cells hdy
    have d2 : decide ((i : Int) < (n : Int)) = true := decide_eq_true (by omega)
    have d3 : decide ((i : Int) ≥ (n : Int)) = false := decide_eq_false (by omega)
    have e1 : (0 : Int) ≤ (i : Int) ∧ (i : Int) < (n : Int) := by omega
    have w1 : wrapF .i64 ((i : Int) + 1) = ((i + 1 : Nat) : Int) := by rw [wrap_i64 (by omega)]; rfl
    simp -implicitDefEqProofs (maxDischargeDepth := 15) only [↓reduceIte, Yr, Ys, Yt, Yz, Wa, Wb, Wg, Wj, Wk, Wl, Wm, Wo, opA, Wv, Wx, Wy, Wz, Va, Za, Zb, Zd, Ze, Vb, Vc, Vd, Ve, AV.cells, Vg, Vh, Vi, Vn, partA, Zf, Zg, Zh, Zi, Nat.reduceAdd, Zj, Zk, Zm, Zn, Zo, Zp, Zs, Zt, binA, putL, allOne, Zu, Zv, AV.one, Zy, and_self, Yf, eq_self, Yp, d3, e1, hg, he, hle, hg', he', hle', hiy]
    have hG1 := (hG.push (.cells [.int .u8 v, .str nm, .slice o1 ar.length c1 z1, .slice p1 sb.length d1 y1] true)).push (.cells [.int .u8 v', .str nm', .slice o2 ar'.length c2 z2, .slice p2 sb'.length d2' y2] true)
    have hs1 := (sub_push hG.wf (.cells [.int .u8 v, .str nm, .slice o1 ar.length c1 z1, .slice p1 sb.length d1 y1] true)).trans (sub_push (hG.wf.push _) (.cells [.int .u8 v', .str nm', .slice o2 ar'.length c2 z2, .slice p2 sb'.length d2' y2] true))
    refine (hcx _ _ _ (DAtL.sub hs1 _ _ hdx0) (DAtL.sub hs1 _ _ hdy0)).mono ?_
    rintro u σ2 ⟨⟨r, rfl, hr⟩, rfl⟩
    by_cases q : r = 0
    · have d4 : (r != 0) = false := by rw [q]; rfl
      simp -implicitDefEqProofs (maxDischargeDepth := 15) only [↓reduceIte, Yr, Ys, Yt, Wa, Wg, Wj, Wk, Wl, Wo, Wr, Wu, opA, Wv, Ww, Wx, Wy, Wz, Za, Zb, Vb, binA, eq_self, d4, w1, lk_n]
      exact ⟨m' - 1, by omega, i + 1, by omega, hG1, take_ext ht hx (by rw [hr.1 q]; exact hy), _, _, _, _, _, _, _, _, _, _, _, _, _, _, _, _, _, _, _, _, _, _, _, _, _, _, _, _, _, _, _, _, _, rfl⟩
    · have d4 : (r != 0) = true := bne_iff_ne.2 q
      simp -implicitDefEqProofs (maxDischargeDepth := 15) only [↓reduceIte, Yr, Ys, Yt, Yz, Wh, Wj, Wk, Wl, Wo, Wq, Wt, Wu, opA, Wv, Ww, Wx, Wy, Wz, Za, Zb, Vb, binA, EndOk, resultA, oneOf, Zz, eq_self, d4, lk_r]
      refine ⟨⟨r, rfl, fun h => absurd h q, fun e => ?_⟩, hG1.sub⟩
      refine hr.2 ?_
      rw [e] at hx; rw [hx] at hy; exact Option.some.inj hy
  · have d2 : decide ((i : Int) < (n : Int)) = false := decide_eq_false (by omega)
    have d3 : decide ((n : Int) < (n : Int)) = false := decide_eq_false (by omega)
    simp -implicitDefEqProofs (maxDischargeDepth := 15) only [↓reduceIte, Yr, Ys, Yt, Wa, Wg, Wh, Wi, Wj, Wk, Wl, Wo, Wp, Ws, opA, Wv, Ww, Wx, Wy, Wz, Za, Zb, Vb, binA, EndOk, resultA, oneOf, Zz, eq_self, d2, d3, lk_e]
    rw [List.take_of_length_le (by omega), List.take_of_length_le (by omega)] at ht
    exact ⟨⟨0, rfl, fun _ => ht, fun _ => rfl⟩, hG.sub⟩
theorem listsF_of {m : Nat} (hm : m ≤ 1099511627776) (ih : CForm m) (l l' : List F) (hc : F.nodess l ≤ m) (σ : AState) (o o' : Option (Nat × Nat)) (n n' : Nat) (c c' : Option Nat) (z z' : Nat) (h : Fs σ.get o n z l) (h' : Fs σ.get o' n' z' l') :
    RunF RR Tryz.prog n_syntax_lists_api_Form [.slice o n c z, .slice o' n' c' z', cmpF] σ (fun v σ' => ZeroIff (l = l') v ∧ σ' = σ) := by
  refine runF_intro hmx rf_syntax_lists_api_Form ?_
  have hn := h.1
  have hn' := h'.1
  by_cases hl : n = n'
  · subst hl
    have d1 : ((n : Int) != (n : Int)) = false := bne_self_eq_false _
    simp -implicitDefEqProofs (maxDischargeDepth := 15) only [↓reduceIte, Yr, Ys, Yt, Wa, Wb, Wg, Wj, Wk, Wl, Wo, opA, Wv, Ww, Wx, Wy, Wz, Za, Zb, List.replicate, Zc, Zd, Ze, Vb, Zf, Zg, Zh, Zi, Nat.reduceAdd, Nat.reduceSub, Zk, binA, Yk, eq_self, i_syntax_lists_api_Form, c13_0, c13_1, c13_2, c13_3, c13_4, c13_5, c13_6]
    refine (cmpFF_of hm ih l l' hc _ _ _ _ _ _ _ _ h h').mono ?_
    rintro u σ2 ⟨⟨r, rfl, hr⟩, rfl⟩
    simp -implicitDefEqProofs (maxDischargeDepth := 15) only [Yr, Ys, Yt, Wh, Wo, Wu, opA, Wv, Wx, Wy, Wz, Za, Zb, Vb, and_true, EndOk, resultA, oneOf, Zz, eq_self]
    exact ⟨r, rfl, hr⟩
  · have d1 : ((n : Int) != (n' : Int)) = true := bne_iff_ne.2 (by omega)
    simp -implicitDefEqProofs (maxDischargeDepth := 15) only [↓reduceIte, Yr, Ys, Yt, Yz, Wb, Wj, Wk, Wl, Wo, opA, Wv, Ww, Wx, Wy, Wz, Za, Zb, List.replicate, Zc, Zd, Ze, Vb, Zf, Zg, Zh, Zi, Nat.reduceAdd, Nat.reduceSub, Zk, binA, eq_self, i_syntax_lists_api_Form, c13_0, c13_1, c13_2, c13_3, c13_4, c13_5, c13_6, d1]
    refine (cmpI_ok n n' _).mono ?_
    rintro u σ2 ⟨⟨r, rfl, hr⟩, rfl⟩
    simp -implicitDefEqProofs (maxDischargeDepth := 15) only [Yr, Ys, Yt, Wh, Wo, Wq, Wu, opA, Wv, Wx, Wy, Wz, Za, Zb, Vb, and_true, EndOk, resultA, oneOf, Zz, eq_self]
    refine ⟨r, rfl, fun q => absurd (Int.ofNat_inj.1 (hr.1 q)) hl, fun e => ?_⟩
    exact absurd (by rw [hn, hn', e]) hl
end Go.Am
namespace Go.Am
open Go.RowKit Go.Proofs Do
set_option maxRecDepth 100000
set_option maxHeartbeats 4000000 in
theorem compare_of {m : Nat} (hm : m + 1 ≤ 1099511627776) (ih : CForm m) : CForm (m + 1) := by
  intro t u hc σ xs ys hx hy
  refine RunV.wf fun hW => RunV.forgetP ZeroIff.flat ?_
  refine runF_intro hmx rf_syntax_Compare ?_
  obtain ⟨v, nm, ar, sb⟩ := t
  obtain ⟨v', nm', ar', sb'⟩ := u
  simp only [F.nodes] at hc
  obtain ⟨o1, c1, z1, p1, d1, y1, rfl, h, hl⟩ := F.cells hx
  obtain ⟨o2, c2, z2, p2, d2, y2, rfl, h', hl'⟩ := F.cells hy
  have hs1 := sub_push hW (.cells [.int .u8 v, .str nm, .slice o1 ar.length c1 z1, .slice p1 sb.length d1 y1] true)
  have hW1 := hW.push (.cells [.int .u8 v, .str nm, .slice o1 ar.length c1 z1, .slice p1 sb.length d1 y1] true)
  have hs2 := sub_push hW1 (.cells [.int .u8 v', .str nm', .slice o2 ar'.length c2 z2, .slice p2 sb'.length d2 y2] true)
  have hW2 := hW1.push (.cells [.int .u8 v', .str nm', .slice o2 ar'.length c2 z2, .slice p2 sb'.length d2 y2] true)
  have hs := hs1.trans hs2
  simp -implicitDefEqProofs (maxDischargeDepth := 15) only [Yr, Ys, Yt, Wb, Wj, Wk, Wo, opA, Wv, Ww, Wx, Wy, Wz, Za, Zb, List.replicate, Zc, Zd, Ze, Vb, Vc, Vd, AV.cells, Vg, Vh, Vi, partA, Zf, Zg, Zh, Zi, Nat.reduceAdd, Nat.reduceSub, Zk, Zl, Zq, Zr, i_syntax_Compare, c87_0, c87_1, c87_2, c87_3, c87_4, c87_5, c87_6]
  refine (cmp8_ok v v' _).mono ?_
  rintro u σ2 ⟨⟨r0, rfl, hr0⟩, rfl⟩
  simp -implicitDefEqProofs (maxDischargeDepth := 15) only [Wb, Wc, Wu, opA, Wv, Ww, Wx, Wy, Wz, Za, Zb, Vg, Vh, Vi, partA, Zh, Zi, Zq, Zr, true_and, againOk, eq_self]
  refine (cmpS_ok nm nm' _).mono ?_
  rintro u σ2 ⟨⟨r1, rfl, hr1⟩, rfl⟩
  simp -implicitDefEqProofs (maxDischargeDepth := 15) only [Wb, Wc, Wu, opA, Wv, Ww, Wx, Wy, Wz, Za, Zb, Vg, Vh, Vi, partA, Zh, Zi, Zq, Zr, true_and, againOk, eq_self]
  refine (listsT_ok ar ar' (by omega) _ _ _ _ _ _ _ _ _ ((h.sub hs1).sub hs2) ((h'.sub hs1).sub hs2)).mono ?_
  rintro u σ3 ⟨⟨r2, rfl, hr2⟩, rfl⟩
  simp -implicitDefEqProofs (maxDischargeDepth := 15) only [Wb, Wc, Wu, opA, Wv, Ww, Wx, Wy, Wz, Za, Zb, Vg, Vh, Vi, partA, Zh, Zi, Zq, Zr, true_and, againOk, eq_self]
  refine (listsF_of (by omega) ih sb sb' (by omega) _ _ _ _ _ _ _ _ _ ((hl.sub hs1).sub hs2) ((hl'.sub hs1).sub hs2)).mono ?_
  rintro u σ3 ⟨⟨r3, rfl, hr3⟩, rfl⟩
  simp -implicitDefEqProofs (maxDischargeDepth := 15) only [↓reduceIte, Ys, Yt, Wb, Wu, opA, Wv, Ww, Wx, Wy, Wz, Za, Zb, Zc, Zd, Ze, Vb, Vc, Vd, AV.cells, Zf, Zg, Zh, Zi, Nat.reduceAdd, Nat.reduceLeDiff, Zj, Zk, Zm, Zn, Zo, Zp, Zs, fillA, and_self, eq_self]
  refine (or_ok (rs := [r0, r1, r2, r3]) (n := 4) Vg rfl (by omega)).mono ?_
  rintro u σ4 ⟨⟨r, rfl, hr⟩, rfl⟩
  simp -implicitDefEqProofs (maxDischargeDepth := 15) only [Yr, Ys, Yt, Wh, Wo, Wu, opA, Wv, Wx, Wy, Wz, Za, Zb, Vb, Zh, Zi, EndOk, resultA, oneOf, Zz]
  refine ⟨⟨r, rfl, ?_⟩, hs.trans (sub_push hW2 _)⟩
  rw [hr]
  simp [hr0, hr1, hr2, hr3]
  exact fun _ _ _ => Int.ofNat_inj
theorem compare_all : ∀ m, m ≤ 1099511627776 → CForm m := by
  intro m
  induction m with
  | zero => exact fun _ t u hc => by obtain ⟨v, n, ar, l⟩ := t; simp only [F.nodes] at hc; omega
  | succ m ih => exact fun h => compare_of h (ih (by omega))
theorem synSame_ok (f g : F) (hn : f.nodes ≤ 1099511627776) (σ : AState) (xs ys : List AV) (hx : DAtL σ.get f.dv xs) (hy : DAtL σ.get g.dv ys) :
    RunF RR Tryz.prog n_syntax_Same [.agg xs, .agg ys] σ (fun v σ' => v = .bool (same f g) ∧ σ' = σ) := by
  refine RunV.wf fun hW => RunV.forget rfl ?_
  refine runF_intro hmx rf_syntax_Same ?_
  have hs1 := sub_push hW (.cells xs true)
  have hW1 := hW.push (.cells xs true)
  have hs2 := sub_push hW1 (.cells ys true)
  have hlx : 4 ≤ xs.length := by rw [hx.length, F.dv_len]; omega
  have htx : xs.take 4 = xs := List.take_of_length_le (by rw [hx.length, F.dv_len]; omega)
  have hly : 4 ≤ ys.length := by rw [hy.length, F.dv_len]; omega
  have hty : ys.take 4 = ys := List.take_of_length_le (by rw [hy.length, F.dv_len]; omega)
  simp -implicitDefEqProofs (maxDischargeDepth := 15) only [↓reduceIte, Yr, Ys, Yt, Wb, Wj, Wk, Wo, opA, Wv, Ww, Wx, Wy, Wz, Za, Zb, List.replicate, Zc, Zd, Ze, Vb, Vc, Vd, AV.cells, Vg, Vh, Vi, partA, Zf, Zg, Zh, Zi, Nat.reduceAdd, Nat.reduceSub, Zk, Zm, i_syntax_Same, c19_0, c19_1, c19_2, hlx, htx, hly, hty]
  refine (compare_all f.nodes hn f g (Nat.le_refl _) _ _ _ (DAtL.sub hs2 _ _ (DAtL.sub hs1 _ _ hx)) (DAtL.sub hs2 _ _ (DAtL.sub hs1 _ _ hy))).mono ?_
  rintro u σ2 ⟨⟨r, rfl, hr⟩, rfl⟩
  by_cases q : r = 0
  · have b : (r == 0) = true := beq_iff_eq.2 q
    simp -implicitDefEqProofs (maxDischargeDepth := 15) only [↓reduceIte, Yr, Ys, Yt, Wh, Wo, Wu, opA, Wv, Ww, Wx, Wy, Wz, Za, Zb, Vb, binA, EndOk, resultA, oneOf, Zz, eq_self, b]
    rw [same_t (hr.1 q)]
    exact ⟨rfl, hs1.trans hs2⟩
  · have b : (r == 0) = false := beq_eq_false_iff_ne.2 q
    simp -implicitDefEqProofs (maxDischargeDepth := 15) only [↓reduceIte, Yr, Ys, Yt, Wh, Wo, Wu, opA, Wv, Ww, Wx, Wy, Wz, Za, Zb, Vb, binA, EndOk, resultA, oneOf, Zz, eq_self, b]
    rw [same_f (fun e => q (hr.2 e))]
    exact ⟨rfl, hs1.trans hs2⟩
end Go.Am
namespace Go.Am
open Go.RowKit Go.Proofs Do
set_option maxRecDepth 100000
theorem sameSeq_ok {σ : AState} {l r l' r' : List F} {o p o' p' : Option (Nat × Nat)} {c d c' d' : Option Nat} {z y z' y' : Nat} (hl : Fs σ.get o l.length z l) (hr : Fs σ.get p r.length y r) (hl' : Fs σ.get o' l'.length z' l') (hr' : Fs σ.get p' r'.length y' r')
    (hb : F.nodess l ≤ 1099511627776) (hb2 : F.nodess r ≤ 1099511627776) :
    RunF RR Tryz.prog n_kit_SameSeq [.agg [.slice o l.length c z, .slice p r.length d y], .agg [.slice o' l'.length c' z', .slice p' r'.length d' y']] σ (fun u σ' => u = .bool (same (l, r) (l', r')) ∧ σ' = σ) := by
  refine RunV.wf fun hW => RunV.forget rfl ?_
  refine runF_intro hmx rf_kit_SameSeq ?_
  have hs1 := sub_push hW (.cells [.slice o l.length c z, .slice p r.length d y] true)
  have hW1 := hW.push (.cells [.slice o l.length c z, .slice p r.length d y] true)
  have hs2 := sub_push hW1 (.cells [.slice o' l'.length c' z', .slice p' r'.length d' y'] true)
  have hs := hs1.trans hs2
  simp -implicitDefEqProofs (maxDischargeDepth := 15) only [Yr, Ys, Yt, Wb, Wj, Wk, Wo, opA, Wv, Ww, Wx, Wy, Wz, Za, Zb, List.replicate, Zc, Zd, Ze, Vb, Vc, Vd, AV.cells, Vg, Vh, Vi, partA, Zf, Zg, Zh, Zi, Nat.reduceAdd, Nat.reduceSub, Zk, Zl, Zq, i_kit_SameSeq, c15_0, c15_1, c15_2, c15_3]
  refine RunV.to ((same_forms (F.nodess l) hb).2 l l' (Nat.le_refl _) _ _ _ _ _ _ _ _ _ ((hl.sub hs1).sub hs2) ((hl'.sub hs1).sub hs2)) ?_
  by_cases q1 : l = l'
  · rw [same_t q1]
    simp -implicitDefEqProofs (maxDischargeDepth := 15) only [Ys, Yt, Yv, Wb, Wd, We, Wu, opA, Wv, Ww, Wx, Wy, Wz, Za, Zb, Vb, Vg, Vh, Vi, partA, Zh, Zi, Zk, Zq, Zr, Vu, Vv, Yj]
    refine RunV.to ((same_forms (F.nodess r) hb2).2 r r' (Nat.le_refl _) _ _ _ _ _ _ _ _ _ ((hr.sub hs1).sub hs2) ((hr'.sub hs1).sub hs2)) ?_
    simp -implicitDefEqProofs (maxDischargeDepth := 15) only [↓reduceIte, Yr, Ys, Yt, Wh, Wo, Wu, opA, Wv, Wx, Wy, Wz, Za, Zb, Vb, EndOk, resultA, oneOf, Zz, eq_self]
    by_cases q2 : r = r'
    · rw [same_t q2, same_t (by rw [q1, q2])]; exact ⟨rfl, hs⟩
    · rw [same_f q2, same_f (fun e => q2 (by injection e))]; exact ⟨rfl, hs⟩
  · rw [same_f q1]
    simp -implicitDefEqProofs (maxDischargeDepth := 15) only [↓reduceIte, Yr, Ys, Yt, Yw, Wd, We, Wh, Wo, Wu, opA, Wv, Ww, Wx, Wy, Wz, Za, Zb, Vb, EndOk, resultA, oneOf, Zz, Yd, Vu, Vv, Vx]
    rw [same_f (fun e => q1 (by injection e))]; exact ⟨rfl, hs⟩
end Go.Am
namespace Go.Am
open Go.RowKit Go.Proofs Do
set_option maxRecDepth 100000
theorem sameInts_ok {σ : AState} {o o' : Option (Nat × Nat)} {n n' : Nat} {c c' : Option Nat} {z z' : Nat} {l l' : List Nat} (h : Is σ.get o n z l) (h' : Is σ.get o' n' z' l') (hb : n ≤ 1099511627776) :
    RunF RR Tryz.prog n_kit_SameInts [.slice o n c z, .slice o' n' c' z'] σ (fun u σ' => u = .bool (same l l') ∧ σ' = σ) := by
  refine runF_intro hmx rf_kit_SameInts ?_
  have hn := h.1
  have hn' := h'.1
  by_cases hl : n = n'
  · subst hl
    have d1 : ((n : Int) != (n : Int)) = false := bne_self_eq_false _
    simp -implicitDefEqProofs (maxDischargeDepth := 15) only [↓reduceIte, Yr, Ys, Yt, Wa, Wg, Wj, Wk, Wl, Wm, Wo, opA, Wv, Ww, Wx, Wy, Wz, Za, Zb, List.replicate, Zc, Zd, Ze, Vb, Zf, Zg, Nat.reduceAdd, Nat.reduceSub, Zk, binA, Yk, eq_self, i_kit_SameInts, c8_0, c8_1, c8_2, c8_3, c8_4, c8_5, c8_6, c8_7, c8_8, c8_9, c8_10, c8_11, c8_12, c8_13, c8_14]
    refine wp_loopK (fun ts σ' m => ∃ i : Nat, i + m = n ∧ σ' = σ ∧ l.take i = l'.take i ∧ ∃ j2 j3 j4 j6 j7 j8 j9 j10 j11 j12 j13 j14 j15 j16 j17 j18 j19 j20 j21 j22 j23 j24 j25 : AV, ts = [.slice o n c z, .slice o' n c' z', j2, j3, j4, .int .i64 i, j6, j7, j8, j9, j10, j11, j12, j13, j14, j15, j16, j17, j18, j19, j20, j21, j22, j23, j24, j25]) n ⟨0, by omega, rfl, rfl, _, _, _, _, _, _, _, _, _, _, _, _, _, _, _, _, _, _, _, _, _, _, _, rfl⟩ ?_
    rintro m ts σ' ⟨i, hi, rfl, ht, j2, j3, j4, j6, j7, j8, j9, j10, j11, j12, j13, j14, j15, j16, j17, j18, j19, j20, j21, j22, j23, j24, j25, rfl⟩
    by_cases hlt : i < n
    · obtain ⟨x, hx, _⟩ := get_lt (l := l) (k := i) (by omega)
      obtain ⟨y, hy, _⟩ := get_lt (l := l') (k := i) (by omega)
      obtain ⟨rfl, ib, off, cs, w, rfl, hg, he⟩ := h.elem hx
      obtain ⟨rfl, ib', off', cs', w', rfl, hg', he'⟩ := h'.elem hy
      have d2 : decide ((i : Int) < (n : Int)) = true := decide_eq_true (by omega)
      have e1 : (0 : Int) ≤ (i : Int) ∧ (i : Int) < (n : Int) := by omega
      have w1 : wrapF .i64 ((i : Int) + 1) = ((i + 1 : Nat) : Int) := by rw [wrap_i64 (by omega)]; rfl
      by_cases q : x = y
      · subst q
        have d3 : ((x : Int) != (x : Int)) = false := bne_self_eq_false _
        simp -implicitDefEqProofs (maxDischargeDepth := 15) only [↓reduceIte, Yr, Ys, Yt, Yz, Wa, Wg, Wj, Wk, Wl, Wm, Wo, Wr, opA, Wv, Ww, Wx, Wy, Wz, Za, Zb, Vb, partA, binA, and_self, true_and, Yf, Yk, eq_self, Yp, e1, hg, he, hg', he', w1, Nat.mul_one, lk_n]
        exact ⟨m - 1, by omega, i + 1, by omega, take_ext ht hx hy, _, _, _, _, _, _, _, _, _, _, _, _, _, _, _, _, _, _, _, _, _, _, _, rfl⟩
      · have d3 : ((x : Int) != (y : Int)) = true := bne_iff_ne.2 (by omega)
        simp -implicitDefEqProofs (maxDischargeDepth := 15) only [↓reduceIte, Yr, Ys, Yt, Yz, Wg, Wh, Wj, Wk, Wl, Wm, Wo, Wq, Wt, opA, Wv, Ww, Wx, Wy, Wz, Za, Zb, Vb, partA, binA, and_self, and_true, EndOk, resultA, oneOf, Zz, Yf, eq_self, Yp, e1, hg, he, hg', he', d3, Nat.mul_one, lk_r]
        rw [same_f (fun e => q (by rw [e] at hx; rw [hx] at hy; exact Option.some.inj hy))]
    · have d2 : decide ((i : Int) < (n : Int)) = false := decide_eq_false (by omega)
      simp -implicitDefEqProofs (maxDischargeDepth := 15) only [↓reduceIte, Yr, Ys, Yt, Wa, Wh, Wi, Wj, Wk, Wl, Wo, Wp, Ws, opA, Wv, Ww, Wx, Wy, Wz, Za, Zb, Vb, binA, and_true, EndOk, resultA, oneOf, Zz, eq_self, d2, lk_e]
      rw [same_t (by rw [List.take_of_length_le (by omega), List.take_of_length_le (by omega)] at ht; exact ht)]
  · have d1 : ((n : Int) != (n' : Int)) = true := bne_iff_ne.2 (by omega)
    simp -implicitDefEqProofs (maxDischargeDepth := 15) only [↓reduceIte, Yr, Ys, Yt, Yz, Wh, Wj, Wk, Wl, Wo, Wq, opA, Wv, Ww, Wx, Wy, Wz, Za, Zb, List.replicate, Zc, Zd, Ze, Vb, Zf, Zg, Nat.reduceAdd, Nat.reduceSub, Zk, binA, and_true, EndOk, resultA, oneOf, Zz, eq_self, i_kit_SameInts, c8_0, c8_1, c8_2, c8_3, c8_4, c8_5, c8_6, c8_7, c8_8, c8_9, c8_10, c8_11, c8_12, c8_13, c8_14, d1]
    rw [same_f (fun e => hl (by rw [hn, hn', e]))]
theorem sameMarks_ok {σ : AState} {o o' : Option (Nat × Nat)} {n n' : Nat} {c c' : Option Nat} {z z' : Nat} {l l' : List (List Nat)} (h : Ms σ.get o n z l) (h' : Ms σ.get o' n' z' l') (hb : n ≤ 1099511627776) (hb2 : ∀ x ∈ l, x.length ≤ 1099511627776) :
    RunF RR Tryz.prog n_kit_SameMarks [.slice o n c z, .slice o' n' c' z'] σ (fun u σ' => u = .bool (same l l') ∧ σ' = σ) := by
  refine runF_intro hmx rf_kit_SameMarks ?_
  have hn := h.1
  have hn' := h'.1
  by_cases hl : n = n'
  · subst hl
    have d1 : ((n : Int) != (n : Int)) = false := bne_self_eq_false _
    simp -implicitDefEqProofs (maxDischargeDepth := 15) only [↓reduceIte, Yr, Ys, Yt, Wa, Wg, Wj, Wk, Wl, Wm, Wo, opA, Wv, Ww, Wx, Wy, Wz, Za, Zb, List.replicate, Zc, Zd, Ze, Vb, Zf, Zg, Nat.reduceAdd, Nat.reduceSub, Zk, binA, Yk, eq_self, i_kit_SameMarks, c7_0, c7_1, c7_2, c7_3, c7_4, c7_5, c7_6, c7_7, c7_8, c7_9, c7_10, c7_11, c7_12, c7_13, c7_14, c7_15]
    refine wp_loopK (fun ts σ' m => ∃ i : Nat, i + m = n ∧ σ' = σ ∧ l.take i = l'.take i ∧ ∃ j2 j3 j4 j6 j7 j8 j9 j10 j11 j12 j13 j14 j15 j16 j17 j18 j19 j20 j21 j22 j23 j24 j25 j26 : AV, ts = [.slice o n c z, .slice o' n c' z', j2, j3, j4, .int .i64 i, j6, j7, j8, j9, j10, j11, j12, j13, j14, j15, j16, j17, j18, j19, j20, j21, j22, j23, j24, j25, j26]) n ⟨0, by omega, rfl, rfl, _, _, _, _, _, _, _, _, _, _, _, _, _, _, _, _, _, _, _, _, _, _, _, _, rfl⟩ ?_
    rintro m ts σ' ⟨i, hi, rfl, ht, j2, j3, j4, j6, j7, j8, j9, j10, j11, j12, j13, j14, j15, j16, j17, j18, j19, j20, j21, j22, j23, j24, j25, j26, rfl⟩
    by_cases hlt : i < n
    · obtain ⟨x, hx, hxm⟩ := get_lt (l := l) (k := i) (by omega)
      obtain ⟨y, hy, _⟩ := get_lt (l := l') (k := i) (by omega)
      obtain ⟨rfl, ib, off, cs, w, rfl, hg, xo, xc, xz, he, hxi⟩ := h.elem hx
      obtain ⟨rfl, ib', off', cs', w', rfl, hg', yo, yc, yz, he', hyi⟩ := h'.elem hy
      have d2 : decide ((i : Int) < (n : Int)) = true := decide_eq_true (by omega)
      have e1 : (0 : Int) ≤ (i : Int) ∧ (i : Int) < (n : Int) := by omega
      have w1 : wrapF .i64 ((i : Int) + 1) = ((i + 1 : Nat) : Int) := by rw [wrap_i64 (by omega)]; rfl
      simp -implicitDefEqProofs (maxDischargeDepth := 15) only [↓reduceIte, Yr, Ys, Yt, Yz, Wb, Wg, Wj, Wk, Wl, Wm, Wo, opA, Wv, Ww, Wx, Wy, Wz, Za, Zb, Vb, partA, Zh, Zi, binA, and_self, Yf, eq_self, Yp, e1, hg, he, hg', he', Nat.mul_one]
      refine RunV.to (sameInts_ok hxi hyi (hb2 x hxm)) ?_
      by_cases q : x = y
      · subst q
        rw [same_t rfl]
        simp -implicitDefEqProofs (maxDischargeDepth := 15) only [↓reduceIte, Yr, Ys, Yt, Wa, Wg, Wj, Wl, Wo, Wr, Wu, opA, Wv, Ww, Wx, Wy, Wz, Za, Zb, Vb, binA, true_and, Yb, eq_self, w1, lk_n]
        exact ⟨m - 1, by omega, i + 1, by omega, take_ext ht hx hy, _, _, _, _, _, _, _, _, _, _, _, _, _, _, _, _, _, _, _, _, _, _, _, _, rfl⟩
      · rw [same_f q]
        simp -implicitDefEqProofs (maxDischargeDepth := 15) only [Yr, Ys, Yt, Yz, Wh, Wj, Wk, Wl, Wo, Wq, Wt, Wu, opA, Wv, Ww, Wx, Wy, Wz, Za, Zb, Vb, and_true, EndOk, resultA, oneOf, Zz, Yc, eq_self, lk_r]
        rw [same_f (fun e => q (by rw [e] at hx; rw [hx] at hy; exact Option.some.inj hy))]
    · have d2 : decide ((i : Int) < (n : Int)) = false := decide_eq_false (by omega)
      simp -implicitDefEqProofs (maxDischargeDepth := 15) only [↓reduceIte, Yr, Ys, Yt, Wa, Wh, Wi, Wj, Wk, Wl, Wo, Wp, Ws, opA, Wv, Ww, Wx, Wy, Wz, Za, Zb, Vb, binA, and_true, EndOk, resultA, oneOf, Zz, eq_self, d2, lk_e]
      rw [same_t (by rw [List.take_of_length_le (by omega), List.take_of_length_le (by omega)] at ht; exact ht)]
  · have d1 : ((n : Int) != (n' : Int)) = true := bne_iff_ne.2 (by omega)
    simp -implicitDefEqProofs (maxDischargeDepth := 15) only [↓reduceIte, Yr, Ys, Yt, Yz, Wh, Wj, Wk, Wl, Wo, Wq, opA, Wv, Ww, Wx, Wy, Wz, Za, Zb, List.replicate, Zc, Zd, Ze, Vb, Zf, Zg, Nat.reduceAdd, Nat.reduceSub, Zk, binA, and_true, EndOk, resultA, oneOf, Zz, eq_self, i_kit_SameMarks, c7_0, c7_1, c7_2, c7_3, c7_4, c7_5, c7_6, c7_7, c7_8, c7_9, c7_10, c7_11, c7_12, c7_13, c7_14, c7_15, d1]
    rw [same_f (fun e => hl (by rw [hn, hn', e]))]
theorem pfs_len (l : List Pf) : l.length ≤ Pf.sizes l := by
  induction l with
  | nil => simp
  | cons a r ih => obtain ⟨r, f, n, s, ms⟩ := a; simp only [Pf.sizes, Pf.size, List.length_cons]; omega
def SProof (m : Nat) : Prop := ∀ (t u : Pf), t.size ≤ m → t.fit → ∀ (σ : AState) (xs ys : List AV), DAtL σ.get t.dv xs → DAtL σ.get u.dv ys → RunF RR Tryz.prog n_kit_SameProof [.agg xs, .agg ys] σ (fun v σ' => v = .bool (same t u) ∧ σ' = σ)
def SProofs (m : Nat) : Prop := ∀ (l l' : List Pf), Pf.sizes l ≤ m → (∀ p ∈ l, p.fit) → ∀ (σ : AState) (o o' : Option (Nat × Nat)) (n n' : Nat) (c c' : Option Nat) (z z' : Nat), Ps σ.get o n z l → Ps σ.get o' n' z' l' →
  RunF RR Tryz.prog n_kit_SameProofs [.slice o n c z, .slice o' n' c' z'] σ (fun v σ' => v = .bool (same l l') ∧ σ' = σ)
theorem sameProofs_of {m : Nat} (hm : m ≤ 1099511627776) (ih : SProof m) : SProofs m := by
  intro l l' hc hfl σ o o' n n' c c' z z' h h'
  refine runF_intro hmx rf_kit_SameProofs ?_
  have hn := h.1
  have hn' := h'.1
  have hcl := pfs_len l
  by_cases hl : n = n'
  · subst hl
    have d1 : ((n : Int) != (n : Int)) = false := bne_self_eq_false _
    simp -implicitDefEqProofs (maxDischargeDepth := 15) only [↓reduceIte, Yr, Ys, Yt, Wa, Wg, Wj, Wk, Wl, Wm, Wo, opA, Wv, Ww, Wx, Wy, Wz, Za, Zb, List.replicate, Zc, Zd, Ze, Vb, Zf, Zg, Nat.reduceAdd, Nat.reduceSub, Zk, binA, Yk, eq_self, i_kit_SameProofs, c64_0, c64_1, c64_2, c64_3, c64_4, c64_5, c64_6, c64_7, c64_8, c64_9, c64_10, c64_11, c64_12, c64_13, c64_14, c64_15]
    refine wp_loopK (fun ts σ' m => ∃ i : Nat, i + m = n ∧ σ' = σ ∧ l.take i = l'.take i ∧ ∃ j2 j3 j4 j6 j7 j8 j9 j10 j11 j12 j13 j14 j15 j16 j17 j18 j19 j20 j21 j22 j23 j24 j25 j26 : AV, ts = [.slice o n c z, .slice o' n c' z', j2, j3, j4, .int .i64 i, j6, j7, j8, j9, j10, j11, j12, j13, j14, j15, j16, j17, j18, j19, j20, j21, j22, j23, j24, j25, j26]) n ⟨0, by omega, rfl, rfl, _, _, _, _, _, _, _, _, _, _, _, _, _, _, _, _, _, _, _, _, _, _, _, _, rfl⟩ ?_
    rintro m' ts σ' ⟨i, hi, rfl, ht, j2, j3, j4, j6, j7, j8, j9, j10, j11, j12, j13, j14, j15, j16, j17, j18, j19, j20, j21, j22, j23, j24, j25, j26, rfl⟩
    by_cases hlt : i < n
    · obtain ⟨x, hx, hxm⟩ := get_lt (l := l) (k := i) (by omega)
      obtain ⟨y, hy, _⟩ := get_lt (l := l') (k := i) (by omega)
      obtain ⟨rfl, ib, off, cs, w, rfl, hg, hle, xs, he, hdx⟩ := h.elem hx
      obtain ⟨rfl, ib', off', cs', w', rfl, hg', hle', ys, he', hdy⟩ := h'.elem hy
      have d2 : decide ((i : Int) < (n : Int)) = true := decide_eq_true (by omega)
      have e1 : (0 : Int) ≤ (i : Int) ∧ (i : Int) < (n : Int) := by omega
      have w1 : wrapF .i64 ((i : Int) + 1) = ((i + 1 : Nat) : Int) := by rw [wrap_i64 (by omega)]; rfl
      simp -implicitDefEqProofs (maxDischargeDepth := 15) only [↓reduceIte, Yr, Ys, Yt, Yz, Wb, Wg, Wj, Wk, Wl, Wm, Wo, opA, Wv, Ww, Wx, Wy, Wz, Za, Zb, Vb, partA, Zh, Zi, binA, and_self, Yf, eq_self, Yp, e1, hg, he, hle, hg', he', hle']
      have hxc := psize_mem hxm
      refine RunV.to (ih x y (by omega) (hfl x hxm) _ xs ys hdx hdy) ?_
      by_cases q : x = y
      · subst q
        rw [same_t rfl]
        simp -implicitDefEqProofs (maxDischargeDepth := 15) only [↓reduceIte, Yr, Ys, Yt, Wa, Wg, Wj, Wl, Wo, Wr, Wu, opA, Wv, Ww, Wx, Wy, Wz, Za, Zb, Vb, binA, true_and, Yb, eq_self, w1, lk_n]
        exact ⟨m' - 1, by omega, i + 1, by omega, take_ext ht hx hy, _, _, _, _, _, _, _, _, _, _, _, _, _, _, _, _, _, _, _, _, _, _, _, _, rfl⟩
      · rw [same_f q]
        simp -implicitDefEqProofs (maxDischargeDepth := 15) only [Yr, Ys, Yt, Yz, Wh, Wj, Wk, Wl, Wo, Wq, Wt, Wu, opA, Wv, Ww, Wx, Wy, Wz, Za, Zb, Vb, and_true, EndOk, resultA, oneOf, Zz, Yc, eq_self, lk_r]
        rw [same_f (fun e => q (by rw [e] at hx; rw [hx] at hy; exact Option.some.inj hy))]
    · have d2 : decide ((i : Int) < (n : Int)) = false := decide_eq_false (by omega)
      simp -implicitDefEqProofs (maxDischargeDepth := 15) only [↓reduceIte, Yr, Ys, Yt, Wa, Wh, Wi, Wj, Wk, Wl, Wo, Wp, Ws, opA, Wv, Ww, Wx, Wy, Wz, Za, Zb, Vb, binA, and_true, EndOk, resultA, oneOf, Zz, eq_self, d2, lk_e]
      rw [same_t (by rw [List.take_of_length_le (by omega), List.take_of_length_le (by omega)] at ht; exact ht)]
  · have d1 : ((n : Int) != (n' : Int)) = true := bne_iff_ne.2 (by omega)
    simp -implicitDefEqProofs (maxDischargeDepth := 15) only [↓reduceIte, Yr, Ys, Yt, Yz, Wh, Wj, Wk, Wl, Wo, Wq, opA, Wv, Ww, Wx, Wy, Wz, Za, Zb, List.replicate, Zc, Zd, Ze, Vb, Zf, Zg, Nat.reduceAdd, Nat.reduceSub, Zk, binA, and_true, EndOk, resultA, oneOf, Zz, eq_self, i_kit_SameProofs, c64_0, c64_1, c64_2, c64_3, c64_4, c64_5, c64_6, c64_7, c64_8, c64_9, c64_10, c64_11, c64_12, c64_13, c64_14, c64_15, d1]
    rw [same_f (fun e => hl (by rw [hn, hn', e]))]
theorem sameProof_of {m : Nat} (ih : SProofs m) : SProof (m + 1) := by
  intro t u hc hfit σ xs ys hx hy
  refine RunV.wf fun hW => RunV.forget rfl ?_
  refine runF_intro hmx rf_kit_SameProof ?_
  obtain ⟨r, f, n, s, ms⟩ := t
  obtain ⟨r', f', n', s', ms'⟩ := u
  obtain ⟨fo, fn, fa, fl, ef⟩ := form_is f
  obtain ⟨fo', fn', fa', fl', ef'⟩ := form_is f'
  simp only [Pf.size] at hc
  rw [Pf.fit] at hfit
  obtain ⟨hr, _, hcase, hsub⟩ := hfit
  have hfsz := right_sizes hr
  have hml : ms.length ≤ 4 := by rcases hcase with ⟨_, _, h, _⟩ | ⟨_, _, h, _⟩ | ⟨_, _, h, h', _⟩ <;> first | (rw [h]; simp) | omega
  have hms : ∀ x ∈ ms, x.length ≤ 1099511627776 := by
    rcases hcase with ⟨_, _, h, _⟩ | ⟨_, _, h, _⟩ | ⟨_, _, _, _, h⟩
    · intro l hl; rw [h] at hl; cases hl
    · intro l hl; rw [h] at hl; cases hl
    · intro l hl; have := (h l hl).1; omega
  obtain ⟨o1, c1, z1, o2, c2, z2, o3, c3, z3, o4, c4, z4, rfl, hFd, hP, hM⟩ := Pf.cells (by rw [ef] at hx; exact hx)
  obtain ⟨p1, d1, y1, p2, d2, y2, p3, d3, y3, p4, d4, y4, rfl, hFd', hP', hM'⟩ := Pf.cells (by rw [ef'] at hy; exact hy)
  have hs1 := sub_push hW (.cells [.str r, .int .u8 fo, .str fn, .slice o1 fa.length c1 z1, .slice o2 fl.length c2 z2, .int .i64 n, .slice o3 s.length c3 z3, .slice o4 ms.length c4 z4] true)
  have hW1 := hW.push (.cells [.str r, .int .u8 fo, .str fn, .slice o1 fa.length c1 z1, .slice o2 fl.length c2 z2, .int .i64 n, .slice o3 s.length c3 z3, .slice o4 ms.length c4 z4] true)
  have hs2 := sub_push hW1 (.cells [.str r', .int .u8 fo', .str fn', .slice p1 fa'.length d1 y1, .slice p2 fl'.length d2 y2, .int .i64 n', .slice p3 s'.length d3 y3, .slice p4 ms'.length d4 y4] true)
  have hs := hs1.trans hs2
  have hF2 := DAtL.sub hs _ _ hFd
  rw [← ef] at hF2
  have hF2' := DAtL.sub hs _ _ hFd'
  rw [← ef'] at hF2'
  by_cases q1 : r = r'
  · have b1 : (r == r') = true := beq_iff_eq.2 q1
    simp -implicitDefEqProofs (maxDischargeDepth := 15) only [↓reduceIte, Yr, Ys, Yt, Yv, Wb, Wd, We, Wj, Wk, Wo, opA, Wv, Ww, Wx, Wy, Wz, Za, Zb, List.replicate, Zc, Zd, Ze, Vb, Vc, Vd, AV.cells, Vg, Vh, Vi, partA, Zf, Zg, Zh, Zi, Nat.reduceAdd, Nat.reduceLeDiff, Nat.reduceSub, Zk, Zl, Zm, Zn, Zo, Zp, Zq, binA, Vu, Vv, Yj, i_kit_SameProof, c37_0, c37_1, c37_2, c37_3, c37_4, b1]
    refine RunV.to ((same_forms f.nodes (by omega)).1 f f' (Nat.le_refl _) _ _ _ hF2 hF2') ?_
    by_cases q2 : f = f'
    · rw [same_t q2]
      by_cases q3 : n = n'
      · have b3 : ((n : Int) == (n' : Int)) = true := by rw [q3]; exact beq_self_eq_true _
        simp -implicitDefEqProofs (maxDischargeDepth := 15) only [↓reduceIte, Ys, Yt, Yv, Wb, Wd, We, Wu, opA, Wv, Ww, Wx, Wy, Wz, Za, Zb, Vb, Vg, Vh, Vi, partA, Zh, Zi, Zk, Zq, Zr, binA, Vu, Vv, Yj, eq_self, b3]
        refine RunV.to (ih s s' (by omega) (pfits_all.1 hsub) _ _ _ _ _ _ _ _ _ (hP.sub hs) (hP'.sub hs)) ?_
        by_cases q4 : s = s'
        · rw [same_t q4]
          simp -implicitDefEqProofs (maxDischargeDepth := 15) only [↓reduceIte, Ys, Yt, Yv, Wb, Wd, We, Wu, opA, Wv, Ww, Wx, Wy, Wz, Za, Zb, Vb, Vg, Vh, Vi, partA, Zh, Zi, Zk, Zq, Zr, Vu, Vv, Yj, eq_self]
          refine RunV.to (sameMarks_ok (hM.sub hs) (hM'.sub hs) (by omega) hms) ?_
          simp -implicitDefEqProofs (maxDischargeDepth := 15) only [↓reduceIte, Yr, Ys, Yt, Wh, Wo, Wu, opA, Wv, Wx, Wy, Wz, Za, Zb, Vb, EndOk, resultA, oneOf, Zz, eq_self]
          by_cases q5 : ms = ms'
          · rw [same_t q5, same_t (by rw [q1, q2, q3, q4, q5])]; exact ⟨rfl, hs⟩
          · rw [same_f q5, same_f (fun e => q5 (by injection e))]; exact ⟨rfl, hs⟩
        · rw [same_f q4]
          simp -implicitDefEqProofs (maxDischargeDepth := 15) only [↓reduceIte, Yr, Ys, Yt, Yw, Wd, We, Wh, Wo, Wu, opA, Wv, Ww, Wx, Wy, Wz, Za, Zb, Vb, EndOk, resultA, oneOf, Zz, Yd, Vu, Vv, eq_self, Vx]
          rw [same_f (fun e => q4 (by injection e))]; exact ⟨rfl, hs⟩
      · have b3 : ((n : Int) == (n' : Int)) = false := beq_eq_false_iff_ne.2 (by omega)
        simp -implicitDefEqProofs (maxDischargeDepth := 15) only [↓reduceIte, Yr, Ys, Yt, Yv, Yw, Wd, We, Wh, Wo, Wu, opA, Wv, Ww, Wx, Wy, Wz, Za, Zb, Vb, Vg, Vh, Vi, partA, Zk, Zq, Zr, binA, EndOk, resultA, oneOf, Zz, Yd, Vu, Vv, Yj, eq_self, Vx, b3]
        rw [same_f (fun e => q3 (by injection e))]; exact ⟨rfl, hs⟩
    · rw [same_f q2]
      simp -implicitDefEqProofs (maxDischargeDepth := 15) only [↓reduceIte, Yr, Ys, Yt, Yw, Wd, We, Wh, Wo, Wu, opA, Wv, Ww, Wx, Wy, Wz, Za, Zb, Vb, EndOk, resultA, oneOf, Zz, Yd, Vu, Vv, eq_self, Vx]
      rw [same_f (fun e => q2 (by injection e))]; exact ⟨rfl, hs⟩
  · have b1 : (r == r') = false := beq_eq_false_iff_ne.2 q1
    simp -implicitDefEqProofs (maxDischargeDepth := 15) only [↓reduceIte, Yr, Ys, Yt, Yw, Wd, We, Wh, Wj, Wk, Wo, opA, Wv, Ww, Wx, Wy, Wz, Za, Zb, List.replicate, Zc, Zd, Ze, Vb, Vc, Vd, AV.cells, Vg, Vh, Vi, partA, Zf, Zg, Nat.reduceAdd, Nat.reduceSub, Zk, Zl, Zq, binA, EndOk, resultA, oneOf, Zz, Yd, Vu, Vv, Vx, i_kit_SameProof, c37_0, c37_1, c37_2, c37_3, c37_4, b1]
    rw [same_f (fun e => q1 (by injection e))]; exact ⟨rfl, hs⟩
theorem same_proofs : ∀ m, m ≤ 1099511627776 → SProof m ∧ SProofs m := by
  intro m
  induction m with
  | zero =>
    intro h
    have : SProof 0 := fun t u hc => by have := size_pos t; omega
    exact ⟨this, sameProofs_of h this⟩
  | succ m ih =>
    intro h
    have := sameProof_of (ih (by omega)).2
    exact ⟨this, sameProofs_of h this⟩
end Go.Am
