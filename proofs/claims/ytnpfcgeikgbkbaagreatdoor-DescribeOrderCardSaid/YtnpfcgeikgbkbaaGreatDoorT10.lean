/-
  A PART of the proof: OrXorder, OrXorder2.
-/
import Derived.Test.YtnpfcgeikgbkbaaGreatDoorT07
import Derived.Test.YtnpfcgeikgbkbaaGreatDoorT08
import Derived.Test.YtnpfcgeikgbkbaaGreatDoorT09
set_option linter.unusedSimpArgs false
set_option linter.unusedVariables false
namespace Go.Am
open Go.RowKit Go.Proofs Do
set_option maxRecDepth 100000
def ucells (L : List Nat) (N : Nat) : List AV := (List.range (N + 1)).map fun j => AV.int .i64 ((L.count j : Nat) : Int)
theorem ucells_len (L : List Nat) (N : Nat) : (ucells L N).length = N + 1 := by simp [ucells]
theorem ucells_get (L : List Nat) {N n : Nat} (h : n ≤ N) : (ucells L N)[n]? = some (.int .i64 ((L.count n : Nat) : Int)) := by
  simp [ucells, List.getElem?_range (show n < N + 1 by omega)]
theorem ucells_put (L : List Nat) {N n : Nat} (h : n ≤ N) : (ucells L N).take n ++ [.int .i64 ((L.count n + 1 : Nat) : Int)] ++ (ucells L N).drop (n + 1) = ucells (L ++ [n]) N := by
  have hl := ucells_len L N
  rw [List.append_assoc, List.singleton_append]
  have e : (ucells L N).set n (.int .i64 ((L.count n + 1 : Nat) : Int)) = (ucells L N).take n ++ .int .i64 ((L.count n + 1 : Nat) : Int) :: (ucells L N).drop (n + 1) := by
    rw [List.set_eq_take_append_cons_drop, if_pos (by omega)]
  rw [← e]
  refine List.ext_getElem (by simp [ucells]) fun j h1 h2 => ?_
  rw [List.getElem_set]
  simp only [ucells, List.getElem_map, List.getElem_range, List.count_append, List.count_cons, List.count_nil]
  by_cases q : n = j
  · subst q; simp
  · simp [q]
theorem ucells_nil (N : Nat) : List.replicate (N + 1) (AV.int .i64 0) = ucells [] N := by
  simp [ucells, List.map_const']
structure OLv (ts : List AV) (v3 v4 v6 v8 v52 v53 v54 : AV) : Prop where
  len : ts.length = 142
  t3 : ts.getD 3 U = v3
  t4 : ts.getD 4 U = v4
  t6 : ts.getD 6 U = v6
  t8 : ts.getD 8 U = v8
  t52 : ts.getD 52 U = v52
  t53 : ts.getD 53 U = v53
  t54 : ts.getD 54 U = v54
theorem OLv.open {ts : List AV} {v3 v4 v6 v8 v52 v53 v54 : AV} (h : OLv ts v3 v4 v6 v8 v52 v53 v54) : ∃ a : Nat → AV, ts = [a 0, a 1, a 2, v3, v4, a 5, v6, a 7, v8, a 9, a 10, a 11, a 12, a 13, a 14, a 15, a 16, a 17, a 18, a 19, a 20, a 21, a 22, a 23, a 24, a 25, a 26, a 27, a 28, a 29, a 30, a 31, a 32, a 33, a 34, a 35, a 36, a 37, a 38, a 39, a 40, a 41, a 42, a 43, a 44, a 45, a 46, a 47, a 48, a 49, a 50, a 51, v52, v53, v54, a 55, a 56, a 57, a 58, a 59, a 60, a 61, a 62, a 63, a 64, a 65, a 66, a 67, a 68, a 69, a 70, a 71, a 72, a 73, a 74, a 75, a 76, a 77, a 78, a 79, a 80, a 81, a 82, a 83, a 84, a 85, a 86, a 87, a 88, a 89, a 90, a 91, a 92, a 93, a 94, a 95, a 96, a 97, a 98, a 99, a 100, a 101, a 102, a 103, a 104, a 105, a 106, a 107, a 108, a 109, a 110, a 111, a 112, a 113, a 114, a 115, a 116, a 117, a 118, a 119, a 120, a 121, a 122, a 123, a 124, a 125, a 126, a 127, a 128, a 129, a 130, a 131, a 132, a 133, a 134, a 135, a 136, a 137, a 138, a 139, a 140, a 141] := by
  have h1 := list_range h.len
  refine ⟨fun i => ts.getD i U, ?_⟩
  rw [← h.t3, ← h.t4, ← h.t6, ← h.t8, ← h.t52, ← h.t53, ← h.t54]
  exact h1
structure ULv (ts : List AV) (v3 v4 v6 v8 v9 v52 v53 v54 v79 v80 v81 : AV) : Prop where
  len : ts.length = 142
  t3 : ts.getD 3 U = v3
  t4 : ts.getD 4 U = v4
  t6 : ts.getD 6 U = v6
  t8 : ts.getD 8 U = v8
  t9 : ts.getD 9 U = v9
  t52 : ts.getD 52 U = v52
  t53 : ts.getD 53 U = v53
  t54 : ts.getD 54 U = v54
  t79 : ts.getD 79 U = v79
  t80 : ts.getD 80 U = v80
  t81 : ts.getD 81 U = v81
theorem ULv.open {ts : List AV} {v3 v4 v6 v8 v9 v52 v53 v54 v79 v80 v81 : AV} (h : ULv ts v3 v4 v6 v8 v9 v52 v53 v54 v79 v80 v81) : ∃ a : Nat → AV, ts = [a 0, a 1, a 2, v3, v4, a 5, v6, a 7, v8, v9, a 10, a 11, a 12, a 13, a 14, a 15, a 16, a 17, a 18, a 19, a 20, a 21, a 22, a 23, a 24, a 25, a 26, a 27, a 28, a 29, a 30, a 31, a 32, a 33, a 34, a 35, a 36, a 37, a 38, a 39, a 40, a 41, a 42, a 43, a 44, a 45, a 46, a 47, a 48, a 49, a 50, a 51, v52, v53, v54, a 55, a 56, a 57, a 58, a 59, a 60, a 61, a 62, a 63, a 64, a 65, a 66, a 67, a 68, a 69, a 70, a 71, a 72, a 73, a 74, a 75, a 76, a 77, a 78, v79, v80, v81, a 82, a 83, a 84, a 85, a 86, a 87, a 88, a 89, a 90, a 91, a 92, a 93, a 94, a 95, a 96, a 97, a 98, a 99, a 100, a 101, a 102, a 103, a 104, a 105, a 106, a 107, a 108, a 109, a 110, a 111, a 112, a 113, a 114, a 115, a 116, a 117, a 118, a 119, a 120, a 121, a 122, a 123, a 124, a 125, a 126, a 127, a 128, a 129, a 130, a 131, a 132, a 133, a 134, a 135, a 136, a 137, a 138, a 139, a 140, a 141] := by
  have h1 := list_range h.len
  refine ⟨fun i => ts.getD i U, ?_⟩
  rw [← h.t3, ← h.t4, ← h.t6, ← h.t8, ← h.t9, ← h.t52, ← h.t53, ← h.t54, ← h.t79, ← h.t80, ← h.t81]
  exact h1
structure OrI (σ4 : AState) (iu N : Nat) (σ' : AState) (L : List Nat) (b : Nat) : Prop where
  kept : Kept (fun j => j = iu) σ4 σ'
  cell : σ'.get iu = some (.cells (ucells L N) true)
  len : L.length ≤ b
theorem OrI.push {σ4 : AState} {iu N : Nat} {σ' : AState} {L : List Nat} {b : Nat} (h : OrI σ4 iu N σ' L b) (x : ABlk) : OrI σ4 iu N (σ'.push x) L b :=
  ⟨h.kept.push x, sub_push h.kept.wf _ _ _ h.cell, h.len⟩
theorem OrI.put {σ4 : AState} {iu N : Nat} {σ' : AState} {L : List Nat} {b n : Nat} (h : OrI σ4 iu N σ' L b) : OrI σ4 iu N (σ'.set iu (.cells (ucells (L ++ [n]) N) true)) (L ++ [n]) (b + 1) :=
  ⟨h.kept.set (Own := fun j => j = iu) rfl (h.kept.wf.lt h.cell) _, Vk, by have := h.len; simp; omega⟩
theorem atoiN_ok {n : Nat} (hn : n < 48) (σ : AState) : RunF RR Tryz.prog n_strconv_Atoi [.str (numS n)] σ (fun u σ' => u = .tuple [.int .i64 n, .nilIface] ∧ σ' = σ) := by
  have e : numS n = itoaS n := by
    unfold numS itoaS
    split
    · rfl
    · rw [if_pos (by omega)]
  rw [e]; exact atoi_ok hn σ
def UInv (σ4 : AState) (iu N ib i : Nat) (L0 ns : List Nat) (us : List Str) (v3 v4 v6 v52 v53 : AV) (ts : List AV) (σ' : AState) (m : Nat) : Prop :=
  ∃ j, j + m = us.length ∧ OrI σ4 iu N σ' (L0 ++ ns.take j) (4 * i + j) ∧ σ'.get ib = some (.cells (us.map .str) true) ∧
    ULv ts v3 v4 v6 (.slice (some (iu, 0)) (N + 1) (some (N + 1)) 1) (.int .i64 i) v52 v53 (.int .i64 i) (.slice (some (ib, 0)) us.length (some us.length) 1) (.int .i64 us.length) (.int .i64 j)
set_option maxHeartbeats 4000000 in
theorem uses_loop {σ4 : AState} {iu N ib i : Nat} {L0 ns : List Nat} {us : List Str} {m0 : Int} {v3 v4 v6 v52 v53 : AV} (h0 : σ4.get 0 = some (.cells [.int .i64 m0] false)) (hn0 : 0 ≠ iu) (hbu : ib ≠ iu)
    (hU : UsesOk i us ns) (hiN : i < N) (hN : N ≤ 40) (hus : us.length ≤ 4) {Q : Ex → List AV → AState → Prop}
    (hQ : ∀ ts σ', OLv ts v3 v4 v6 (.slice (some (iu, 0)) (N + 1) (some (N + 1)) 1) v52 v53 (.int .i64 i) → OrI σ4 iu N σ' (L0 ++ ns) (4 * (i + 1)) → Q (.exit 2) ts σ') {ts : List AV} {σ' : AState} {m : Nat}
    (h : UInv σ4 iu N ib i L0 ns us v3 v4 v6 v52 v53 ts σ' m) : wpC RR Tryz.prog (.loop c42_27) ts σ' Q := by
  refine wp_loopK (UInv σ4 iu N ib i L0 ns us v3 v4 v6 v52 v53) m h ?_
  clear h m σ' ts
  rintro m ts σ' ⟨j, hj, hO, hb, hL⟩
  obtain ⟨a, rfl⟩ := hL.open
  by_cases hlt : j < us.length
  · obtain ⟨u, hu, _⟩ := drop_at hlt
    obtain ⟨n, hn, hcm, hul, hcut, hn1, hni⟩ := hU.at' hu
    have hW := hO.kept.wf
    have h0' := hO.kept.keep _ _ hn0 h0
    have hc := hO.cell
    have d1 : decide ((j : Int) < (us.length : Int)) = true := decide_eq_true (by omega)
    have e1 : (0 : Int) ≤ (j : Int) ∧ (j : Int) < (us.length : Int) := by omega
    have hm : (us.map AV.str)[j]? = some (.str u) := by simp [hu]
    simp -implicitDefEqProofs (maxDischargeDepth := 15) only [↓reduceIte, Yr, Ys, Yt, Yz, Wb, Wg, Wj, Wk, Wl, Wm, Wo, opA, Wv, Ww, Wx, Wy, Wz, Za, Zb, Vb, partA, Zh, Zi, Zk, binA, and_self, Yf, eq_self, Yp, c42_15, c42_16, c42_17, c42_18, c42_19, c42_20, c42_21, c42_22, c42_23, c42_24, c42_25, c42_26, c42_27, e1, hb, hm, Nat.mul_one]
    refine RunV.to (cut_calls h0' _ _ (by omega)) ?_
    rw [hcut]
    simp -implicitDefEqProofs (maxDischargeDepth := 15) only [Yr, Ys, Yt, Wb, Wj, Wk, Wo, Wu, opA, Wv, Ww, Wx, Wy, Wz, Za, Zb, Vb, Zh, Zi, Zq, Zr]
    refine RunV.to (atoiN_ok (by omega) _) ?_
    have d2 : decide ((n : Int) < 1) = false := decide_eq_false (by omega)
    have d3 : decide ((n : Int) > (i : Int)) = false := decide_eq_false (by omega)
    have e2 : (0 : Int) ≤ (n : Int) ∧ (n : Int) < ((N + 1 : Nat) : Int) := by omega
    have hg := ucells_get (L0 ++ ns.take j) (N := N) (n := n) (by omega)
    have hlen := ucells_len (L0 ++ ns.take j) N
    have hle : (L0 ++ ns.take j).count n ≤ (L0 ++ ns.take j).length := List.count_le_length
    have hll := hO.len
    have w1 : wrapF .i64 ((((L0 ++ ns.take j).count n : Nat) : Int) + 1) = (((L0 ++ ns.take j).count n + 1 : Nat) : Int) := by rw [wrap_i64 (by omega)]; rfl
    have w2 : wrapF .i64 ((j : Int) + 1) = ((j + 1 : Nat) : Int) := by rw [wrap_i64 (by omega)]; rfl
    have hcl := hW.lt hc
    have l1 : n + 1 ≤ N + 1 := by omega
    have l2 : n ≤ N := by omega
    simp -implicitDefEqProofs (maxDischargeDepth := 15) only [↓reduceIte, Yr, Ys, Yt, Yv, Wa, Wd, Wg, Wj, Wk, Wl, Wo, Wr, Wu, opA, Wv, Ww, Wx, Wy, Wz, Va, Za, Zb, Vb, Vc, Ve, AV.cells, partA, Zf, Zg, Zk, Zq, Zr, binA, eqA, nilEq, putL, allOne, Zu, Zv, AV.one, Zy, and_self, Yb, Yd, Yf, Vu, Vv, Yj, eq_self, d2, d3, e2, hc, hg, hlen, w1, w2, Nat.mul_one, lk_n, l1, l2, ucells_put]
    have ht : ns.take (j + 1) = ns.take j ++ [n] := by rw [List.take_add_one, hn]; rfl
    exact ⟨m - 1, by omega, j + 1, by omega, by rw [ht, ← List.append_assoc]; exact hO.put, by rw [Vl hbu]; exact hb, ⟨rfl, rfl, rfl, rfl, rfl, rfl, rfl, rfl, rfl, rfl, rfl, rfl⟩⟩
  · have d1 : decide ((j : Int) < (us.length : Int)) = false := decide_eq_false (by omega)
    simp -implicitDefEqProofs (maxDischargeDepth := 15) only [↓reduceIte, Yr, Ys, Yt, Wa, Wi, Wj, Wk, Wl, Wo, Wp, opA, Wv, Wx, Wy, Wz, Za, Zb, Vb, binA, eq_self, c42_15, c42_16, c42_17, c42_18, c42_19, c42_20, c42_21, c42_22, c42_23, c42_24, c42_25, c42_26, c42_27, d1, lk_e]
    have hnl := hU.len
    have ht : ns.take j = ns := List.take_of_length_le (by omega)
    rw [ht] at hO
    exact hQ _ _ ⟨rfl, rfl, rfl, rfl, rfl, rfl, rfl, rfl⟩ ⟨hO.kept, hO.cell, by have := hO.len; omega⟩
theorem cut_len (s sep : Str) : (Lib.cut s sep).2.1.length ≤ s.length := by
  unfold Lib.cut
  split <;> simp
def RInv (σ4 : AState) (iu N il : Nat) (nss : List (List Nat)) (v3 v6 : AV) (ts : List AV) (σ' : AState) (m : Nat) : Prop :=
  ∃ i, i + m = N ∧ OrI σ4 iu N σ' (nss.take i).flatten (4 * i) ∧ OLv ts v3 (.slice (some (il, 0)) N none 1) v6 (.slice (some (iu, 0)) (N + 1) (some (N + 1)) 1) (.slice (some (il, 0)) N none 1) (.int .i64 N) (.int .i64 i)
set_option maxHeartbeats 4000000 in
theorem lines_loop {σ4 : AState} {iu N il : Nat} {lines : List Str} {nss : List (List Nat)} {m0 : Int} {pw : Bool} {v3 v6 : AV} (h0 : σ4.get 0 = some (.cells [.int .i64 m0] false)) (hn0 : 0 ≠ iu)
    (hpow : σ4.get 3 = some (.cells pow10L pw)) (hnp : 3 ≠ iu)
    (hil : σ4.get il = some (.cells (lines.map .str) true)) (hlu : il ≠ iu) (hlt4 : iu < σ4.next) (hNl : lines.length = N) (hN : N ≤ 40) (hLs : Lines 0 lines nss) {Q : Ex → List AV → AState → Prop}
    (hQ : ∀ ts σ', OLv ts v3 (.slice (some (il, 0)) N none 1) v6 (.slice (some (iu, 0)) (N + 1) (some (N + 1)) 1) (.slice (some (il, 0)) N none 1) (.int .i64 N) (.int .i64 N) → OrI σ4 iu N σ' nss.flatten (4 * N) → Q (.exit 0) ts σ') {ts : List AV} {σ' : AState} {m : Nat}
    (h : RInv σ4 iu N il nss v3 v6 ts σ' m) : wpC RR Tryz.prog (.loop c42_39) ts σ' Q := by
  refine wp_loopK (RInv σ4 iu N il nss v3 v6) m h ?_
  clear h m σ' ts
  rintro m ts σ' ⟨i, hi, hO, hL⟩
  obtain ⟨a, rfl⟩ := hL.open
  have hnl := hLs.len
  by_cases hlt : i < N
  · obtain ⟨ℓ, hℓ, _⟩ := drop_at (l := lines) (i := i) (by omega)
    obtain ⟨ns, hns, body, hl, hll, hcase⟩ := hLs.at' hℓ
    rw [Nat.zero_add] at hl hcase
    have hl' : ℓ = (numS (i + 1) ++ [58, 32]) ++ body := by rw [hl]; simp
    have hbl : body.length ≤ ℓ.length := by rw [hl']; simp; omega
    have hW := hO.kept.wf
    have h0' := hO.kept.keep _ _ hn0 h0
    have hp' := hO.kept.keep _ _ hnp hpow
    have hil' := hO.kept.keep _ _ hlu hil
    have d1 : decide ((i : Int) < (N : Int)) = true := decide_eq_true (by omega)
    have e1 : (0 : Int) ≤ (i : Int) ∧ (i : Int) < (N : Int) := by omega
    have hm : (lines.map AV.str)[i]? = some (.str ℓ) := by simp [hℓ]
    have w2 : wrapF .i64 ((i : Int) + 1) = ((i + 1 : Nat) : Int) := by rw [wrap_i64 (by omega)]; rfl
    have hend : ∀ ts σ'', OLv ts v3 (.slice (some (il, 0)) N none 1) v6 (.slice (some (iu, 0)) (N + 1) (some (N + 1)) 1) (.slice (some (il, 0)) N none 1) (.int .i64 N) (.int .i64 i) → OrI σ4 iu N σ'' ((nss.take i).flatten ++ ns) (4 * (i + 1)) →
        wpC RR Tryz.prog c42_36 ts σ'' (LoopK (RInv σ4 iu N il nss v3 v6) m Q) := by
      intro ts σ'' hT hO2
      obtain ⟨a, rfl⟩ := hT.open
      simp -implicitDefEqProofs (maxDischargeDepth := 15) only [↓reduceIte, Yr, Ys, Yt, Wj, opA, Wv, Ww, Wx, Wy, Wz, Za, Zb, Vb, binA, eq_self, c42_36, w2, lk_n]
      have ht : nss.take (i + 1) = nss.take i ++ [ns] := by rw [List.take_add_one, hns]; rfl
      exact ⟨m - 1, by omega, i + 1, by omega, by rw [ht]; simpa using hO2, ⟨rfl, rfl, rfl, rfl, rfl, rfl, rfl, rfl⟩⟩
    simp -implicitDefEqProofs (maxDischargeDepth := 15) only [↓reduceIte, Yr, Ys, Yt, Yz, Wb, Wg, Wj, Wk, Wl, Wm, Wo, opA, Wv, Ww, Wx, Wy, Wz, Za, Zb, Vb, partA, Zh, Zi, Zk, binA, and_self, Yf, eq_self, Yp, c42_8, c42_9, c42_10, c42_11, c42_12, c42_13, c42_14, c42_28, c42_29, c42_30, c42_31, c42_32, c42_33, c42_34, c42_35, c42_37, c42_38, c42_39, e1, hil', hm, w2, Nat.mul_one]
    refine RunV.to (itoaN_ok (by omega) hp') ?_
    have hn3 := numS_len (i + 1)
    have q1 : (numS (i + 1)).length + 2 < 9223372036854775808 := by omega
    simp -implicitDefEqProofs (maxDischargeDepth := 15) only [↓reduceIte, Ys, Yt, Wb, Wu, opA, Wv, Ww, Wx, Wy, Wz, Za, Zb, Vb, Zf, Zg, Zh, Zi, Nat.reduceAdd, Zk, binA, q1]
    rw [hl']
    refine RunV.to (cutPrefix_ok _ _ _) ?_
    simp -implicitDefEqProofs (maxDischargeDepth := 15) only [Yr, Ys, Yt, Wa, Wb, Wg, Wj, Wk, Wl, Wo, Wu, opA, Wv, Ww, Wx, Wy, Wz, Za, Zb, Vb, Zh, Zi, Zq, Zr, Yb]
    refine RunV.to (cut_calls h0' _ _ (by omega)) ?_
    rcases hcase with ⟨hc, rfl⟩ | ⟨b, us, hc, hune, hul, hU⟩
    · rw [hc]
      simp -implicitDefEqProofs (maxDischargeDepth := 15) only [↓reduceIte, Yr, Ys, Yt, Yz, Wi, Wj, Wk, Wl, Wo, Wp, Ws, Wu, opA, Wv, Wx, Wy, Wz, Za, Zb, Vb, Zq, Zr, Yc, eq_self]
      exact hend _ _ ⟨rfl, rfl, rfl, rfl, rfl, rfl, rfl, rfl⟩ ⟨hO.kept, by rw [List.append_nil]; exact hO.cell, by have := hO.len; rw [List.append_nil]; omega⟩
    · have hjl := cut_len body sFrom
      rw [hc] at hjl ⊢
      simp -implicitDefEqProofs (maxDischargeDepth := 15) only [Yr, Ys, Yt, Wa, Wb, Wg, Wj, Wk, Wl, Wo, Wu, opA, Wv, Ww, Wx, Wy, Wz, Za, Zb, Vb, Zh, Zi, Zq, Zr, Yb]
      have h44 : ∀ u ∈ us, (44 : UInt8) ∉ u := fun u hu => by
        obtain ⟨j, hj⟩ := List.getElem?_of_mem hu
        obtain ⟨n, _, h, _⟩ := hU.at' hj
        exact h
      refine RunV.to (split2_ok hune h44 (by simp only at hjl; omega) h0') ?_
      simp -implicitDefEqProofs (maxDischargeDepth := 15) only [Yr, Ys, Yt, Wm, Wo, Wu, opA, Wv, Ww, Wx, Wy, Wz, Za, Zb, Vb]
      have hOp := hO.push (.cells (us.map .str) true)
      have hle := hO.kept.le
      refine uses_loop h0 hn0 (ib := σ'.next) (by omega) hU hlt hN hul ?_ (m := us.length) ⟨0, by omega, by simpa using hOp, Vg, ⟨rfl, rfl, rfl, rfl, rfl, rfl, rfl, rfl, rfl, rfl, rfl, rfl⟩⟩
      intro ts σ'' hT hO2
      simp -implicitDefEqProofs (maxDischargeDepth := 15) only [↓reduceIte, Wo, Wr, Ws, eq_self]
      exact hend _ _ hT hO2
  · have d1 : decide ((i : Int) < (N : Int)) = false := decide_eq_false (by omega)
    simp -implicitDefEqProofs (maxDischargeDepth := 15) only [↓reduceIte, Yr, Ys, Yt, Wa, Wi, Wj, Wk, Wl, Wo, Wp, opA, Wv, Wx, Wy, Wz, Za, Zb, Vb, binA, eq_self, c42_8, c42_9, c42_10, c42_11, c42_12, c42_13, c42_14, c42_28, c42_29, c42_30, c42_31, c42_32, c42_33, c42_34, c42_35, c42_37, c42_38, c42_39, d1, lk_e]
    have hiN : i = N := by omega
    subst hiN
    have ht : nss.take i = nss := List.take_of_length_le (by omega)
    rw [ht] at hO
    exact hQ _ _ ⟨rfl, rfl, rfl, rfl, rfl, rfl, rfl, rfl⟩ hO
end Go.Am
namespace Go.Am
open Go.RowKit Go.Proofs Do
set_option maxRecDepth 100000
theorem replicate_flat0 (N : Nat) : (List.replicate (N + 1) [AV.int .i64 0]).flatten = ucells [] N := by
  rw [← ucells_nil]
  induction N with
  | zero => rfl
  | succ n ih => rw [List.replicate_succ, List.flatten_cons, ih, List.replicate_succ (n := n + 1)]; rfl
theorem replicate_flat1 (N : Nat) : ([AV.int .i64 0] :: List.replicate N [AV.int .i64 0]).flatten = ucells [] N := replicate_flat0 N
structure CLv (ts : List AV) (v4 v6 v8 v23 : AV) : Prop where
  len : ts.length = 142
  t4 : ts.getD 4 U = v4
  t6 : ts.getD 6 U = v6
  t8 : ts.getD 8 U = v8
  t23 : ts.getD 23 U = v23
theorem CLv.open {ts : List AV} {v4 v6 v8 v23 : AV} (h : CLv ts v4 v6 v8 v23) : ∃ a : Nat → AV, ts = [a 0, a 1, a 2, a 3, v4, a 5, v6, a 7, v8, a 9, a 10, a 11, a 12, a 13, a 14, a 15, a 16, a 17, a 18, a 19, a 20, a 21, a 22, v23, a 24, a 25, a 26, a 27, a 28, a 29, a 30, a 31, a 32, a 33, a 34, a 35, a 36, a 37, a 38, a 39, a 40, a 41, a 42, a 43, a 44, a 45, a 46, a 47, a 48, a 49, a 50, a 51, a 52, a 53, a 54, a 55, a 56, a 57, a 58, a 59, a 60, a 61, a 62, a 63, a 64, a 65, a 66, a 67, a 68, a 69, a 70, a 71, a 72, a 73, a 74, a 75, a 76, a 77, a 78, a 79, a 80, a 81, a 82, a 83, a 84, a 85, a 86, a 87, a 88, a 89, a 90, a 91, a 92, a 93, a 94, a 95, a 96, a 97, a 98, a 99, a 100, a 101, a 102, a 103, a 104, a 105, a 106, a 107, a 108, a 109, a 110, a 111, a 112, a 113, a 114, a 115, a 116, a 117, a 118, a 119, a 120, a 121, a 122, a 123, a 124, a 125, a 126, a 127, a 128, a 129, a 130, a 131, a 132, a 133, a 134, a 135, a 136, a 137, a 138, a 139, a 140, a 141] := by
  have h1 := list_range h.len
  refine ⟨fun i => ts.getD i U, ?_⟩
  rw [← h.t4, ← h.t6, ← h.t8, ← h.t23]
  exact h1
set_option maxHeartbeats 4000000 in
theorem order_law {σ : AState} {o : Option (Nat × Nat)} {n : Nat} {z : Nat} {l : List Nat} {m0 : Int} {pw : Bool} (hB : Bys σ.get o n z l) (hx : ∀ x ∈ l, x < 256) (h0 : σ.get 0 = some (.cells [.int .i64 m0] false))
    (hpow : σ.get 3 = some (.cells pow10L pw)) :
    RunF RR Tryz.prog n_law41_DescribeOrder [.slice o n none z] σ (fun u _ => u = .bool true) := by
  refine RunV.wf fun hW => ?_
  refine runF_intro hmx rf_law41_DescribeOrder ?_
  simp -implicitDefEqProofs (maxDischargeDepth := 15) only [Yr, Ys, Yt, Wb, Wj, Wk, Wo, opA, Ww, Wz, Za, Zb, List.replicate, Zc, Zd, Ze, Vb, Zf, Zg, Zi, Nat.reduceSub, Zk, i_law41_DescribeOrder, c42_0, c42_1, c42_2, c42_3, c42_4, c42_5, c42_6, c42_7, c42_40, c42_41, c42_49, c42_50, c42_51, c42_52, c42_53, c42_54, c42_55, c42_56, c42_57, c42_58, c42_59, c42_60, c42_61]
  refine RunV.to (awake_ok _) ?_
  simp -implicitDefEqProofs (maxDischargeDepth := 15) only [Yr, Ys, Yt, Wa, Wb, Wg, Wj, Wk, Wl, Wo, Wu, opA, Wv, Ww, Wx, Wy, Wz, Za, Zb, Vb, Zh, Zi, Yb]
  refine (proved_ok hB hx).mono ?_
  rintro u σ1 ⟨xs, rfl, hD, hG1⟩
  obtain ⟨hfit, hsz⟩ := proved_fit hx
  generalize proved l = p at *
  obtain ⟨r, f, k, s, ms, ep⟩ := proof_is p
  subst ep
  obtain ⟨fo, fn, fa, fl, ef⟩ := form_is f
  have hW1 := hG1.wf
  have hD1 : DAtL σ1.get (Pf.mk r f k s ms).dv xs := DAtL.sub (fun j b q => (newer_some q).2) _ _ hD
  have hD0 := hD1
  obtain ⟨o1, c1, z1, o2, c2, z2, o3, c3, z3, o4, c4, z4, rfl, hFd, hP, hM⟩ := Pf.cells (by rw [ef] at hD1; exact hD1)
  have hr : f.right = true := by rw [Pf.fit] at hfit; exact hfit.1
  have ht : f.tiny := by rw [Pf.fit] at hfit; exact hfit.2.1
  have hfsz := right_sizes hr
  have hsane := sane_of_tiny f ht (by omega)
  have htx := F.txt_len f ht
  have hLs := Pf.lines_law _ 0 hfit (by omega)
  have hcnt := Pf.refs_count (Pf.mk r f k s ms) 0
  have hll := Pf.lines_len (Pf.mk r f k s ms) 0
  obtain ⟨ℓ, hℓ, hct⟩ := last_line (r := r) (f := f) (n := k) (s := s) (ms := ms)
  obtain ⟨nsl, _, _, _, hℓl, _⟩ := hLs.at' hℓ
  have hpos := size_pos (Pf.mk r f k s ms)
  have hsize : Pf.sizes s = (Pf.mk r f k s ms).size - 1 := by rw [Pf.size]; omega
  rw [hsize] at hℓ
  generalize hN : (Pf.mk r f k s ms).size = N at *
  generalize hlin : (Pf.mk r f k s ms).lines 0 = lines at *
  generalize (Pf.mk r f k s ms).refs 0 = nss at *
  have hW2 := hW1.push (.cells [.str r, .int .u8 fo, .str fn, .slice o1 fa.length c1 z1, .slice o2 fl.length c2 z2, .int .i64 k, .slice o3 s.length c3 z3, .slice o4 ms.length c4 z4] true)
  have hs2 := sub_push hW1 (.cells [.str r, .int .u8 fo, .str fn, .slice o1 fa.length c1 z1, .slice o2 fl.length c2 z2, .int .i64 k, .slice o3 s.length c3 z3, .slice o4 ms.length c4 z4] true)
  have hb2 := Vg (σ := σ1) (b := .cells [.str r, .int .u8 fo, .str fn, .slice o1 fa.length c1 z1, .slice o2 fl.length c2 z2, .int .i64 k, .slice o3 s.length c3 z3, .slice o4 ms.length c4 z4] true)
  have hD2 := DAtL.sub hs2 _ _ hD0
  have hFd2 := DAtL.sub hs2 _ _ hFd
  have hle1 := hG1.le
  have hn2 : (σ1.push (.cells [.str r, .int .u8 fo, .str fn, .slice o1 fa.length c1 z1, .slice o2 fl.length c2 z2, .int .i64 k, .slice o3 s.length c3 z3, .slice o4 ms.length c4 z4] true)).next = σ1.next + 1 := rfl
  simp -implicitDefEqProofs (maxDischargeDepth := 15) only [↓reduceIte, Yr, Ys, Yt, Wb, Wj, Wk, Wo, Wu, opA, Wv, Ww, Wx, Wy, Wz, Va, Za, Zb, Zd, Ze, Vb, Vc, Vd, Ve, AV.cells, Vg, Vn, partA, Zf, Zg, Zh, Zi, Nat.reduceAdd, Zj, Zk, Zm, Zn, Zo, Zp, Zs, Zt, putL, allOne, Zu, Zv, AV.one, Zy, and_self, eq_self]
  refine (lines_ok hfit (by omega) _ _ hD2 (hs2 _ _ (hG1.sub _ _ hpow))).mono ?_
  rintro u σ3 ⟨o', c', z', rfl, hG3⟩
  rw [hN, hlin] at hG3
  have hb3 := hG3.keep _ _ hb2
  have hb3l := hG3.wf.lt hb3
  have hFd3 := DAtL.sub hG3.keep _ _ hFd2
  rw [hN]
  simp -implicitDefEqProofs (maxDischargeDepth := 15) only [↓reduceIte, Yr, Ys, Yt, Wb, Wj, Wk, Wo, Wu, opA, Wv, Ww, Wx, Wy, Wz, Za, Zb, Vb, partA, Zf, Zg, Zh, Zi, Nat.reduceAdd, Nat.reduceLeDiff, Zk, Zm, Zn, Zo, Zp, Zq, Zr, hb3]
  refine RunV.to (form_ok f hr hsane (by omega) _ _ (by rw [ef]; exact hFd3)) ?_
  have d1 : decide ((N : Int) < 1) = false := decide_eq_false (by omega)
  have w1 : wrapF .i64 ((N : Int) + 1) = ((N + 1 : Nat) : Int) := by rw [wrap_i64 (by omega)]; rfl
  have c5 : (N + 1) * 8 ≤ 281474976710656 := by omega
  simp -implicitDefEqProofs (maxDischargeDepth := 15) only [↓reduceIte, Yr, Ys, Yt, Yv, Wa, Wd, Wg, Wj, Wk, Wl, Wm, Wo, Wu, opA, Wv, Ww, Wx, Wy, Wz, Za, Zb, List.replicate, Vb, Vc, Vd, Zf, Zg, Zj, Zk, Zq, Zr, binA, and_self, Yd, natOf, Vu, Vv, Yj, Yk, eq_self, d1, show wrapF .i64 ((0 : Int) + 0) = 0 from by decide, w1, c5, replicate_flat1, show (0 < 1) = True from by simp, show (0 < 8) = True from by simp]
  have hlen3 := hG3.len
  simp only [List.length_map, Nat.mul_one] at hlen3
  obtain ⟨il, rfl, rfl, rfl, hil⟩ : ∃ il, o' = some (il, 0) ∧ c' = none ∧ z' = 1 ∧ σ3.get il = some (.cells (lines.map .str) true) := by
    rcases hG3.at' with ⟨_, h⟩ | ⟨h1, h2, il, h3, _, h4⟩
    · omega
    · exact ⟨il, h3, h1, h2, h4⟩
  have hW3 := hG3.wf
  have k0 := sub_push hW3 (.cells (ucells [] N) true) _ _ (hG3.keep _ _ (hs2 _ _ (hG1.sub _ _ h0)))
  have kp := sub_push hW3 (.cells (ucells [] N) true) _ _ (hG3.keep _ _ (hs2 _ _ (hG1.sub _ _ hpow)))
  have kl := sub_push hW3 (.cells (ucells [] N) true) _ _ hil
  have ku := Vg (σ := σ3) (b := .cells (ucells [] N) true)
  have hW4 := hW3.push (.cells (ucells [] N) true)
  have hill := hW3.lt hil
  have h0l := hW3.lt (hG3.keep _ _ (hs2 _ _ (hG1.sub _ _ h0)))
  have hpl := hW3.lt (hG3.keep _ _ (hs2 _ _ (hG1.sub _ _ hpow)))
  have hn4 : (σ3.push (.cells (ucells [] N) true)).next = σ3.next + 1 := rfl
  generalize σ3.push (.cells (ucells [] N) true) = σ4 at *
  generalize σ3.next = iu at *
  refine lines_loop (il := il) (iu := iu) (N := N) (lines := lines) (nss := nss) (v3 := .ptr (some (σ1.next, 0))) (v6 := .str f.txt) (m := N) k0 (by omega) kp (by omega) kl (by omega) (by omega) (by omega) (by omega) hLs ?_ ⟨0, by omega, ⟨Kept.refl hW4, by simpa using ku, by simp⟩, ⟨rfl, rfl, rfl, rfl, rfl, rfl, rfl, rfl⟩⟩
  intro ts σ' hT hO
  obtain ⟨a, rfl⟩ := hT.open
  simp -implicitDefEqProofs (maxDischargeDepth := 15) only [↓reduceIte, Yr, Ys, Yt, Wj, Wk, Wm, Wo, Ws, opA, Ww, Wz, Za, Zb, Vb, eq_self]
  have hc := hO.cell
  have hk0 := hO.kept.keep _ _ (by omega) k0
  have hkl := hO.kept.keep _ _ (by omega) kl
  refine wp_loopK (fun ts σ'' m => ∃ j, j + m = N ∧ 1 ≤ j ∧ σ'' = σ' ∧ CLv ts (.slice (some (il, 0)) N none 1) (.str f.txt) (.slice (some (iu, 0)) (N + 1) (some (N + 1)) 1) (.int .i64 j)) (N - 1) ⟨1, by omega, by omega, rfl, ⟨rfl, rfl, rfl, rfl, rfl⟩⟩ ?_
  rintro m ts σ'' ⟨j, hj, hj1, rfl, hL⟩
  obtain ⟨a, rfl⟩ := hL.open
  by_cases hlt : j < N
  · have hg := ucells_get nss.flatten (N := N) (n := j) (by omega)
    rw [hcnt, rl_one (by omega)] at hg
    have d2 : decide ((j : Int) < (N : Int)) = true := decide_eq_true (by omega)
    have e2 : (0 : Int) ≤ (j : Int) ∧ (j : Int) < ((N + 1 : Nat) : Int) := by omega
    have w2 : wrapF .i64 ((j : Int) + 1) = ((j + 1 : Nat) : Int) := by rw [wrap_i64 (by omega)]; rfl
    simp -implicitDefEqProofs (maxDischargeDepth := 15) only [↓reduceIte, Yr, Ys, Yt, Yz, Wa, Wg, Wj, Wk, Wl, Wm, Wo, Wr, opA, Wv, Ww, Wx, Wy, Wz, Za, Zb, Vb, partA, Zk, binA, and_self, true_and, Yf, eq_self, c42_42, c42_43, c42_44, c42_45, c42_46, c42_47, c42_48, d2, e2, hc, hg, w2, Nat.mul_one, lk_n, show (((1 : Nat) : Int) != 1) = false from rfl]
    exact ⟨m - 1, by omega, j + 1, by omega, by omega, ⟨rfl, rfl, rfl, rfl, rfl⟩⟩
  · have d2 : decide ((j : Int) < (N : Int)) = false := decide_eq_false (by omega)
    have hg := ucells_get nss.flatten (N := N) (n := N) (by omega)
    rw [hcnt, rl_no (by omega)] at hg
    have e2 : (0 : Int) ≤ (N : Int) ∧ (N : Int) < ((N + 1 : Nat) : Int) := by omega
    have e3 : (0 : Int) ≤ ((N - 1 : Nat) : Int) ∧ ((N - 1 : Nat) : Int) < (N : Int) := by omega
    have w3 : wrapF .i64 ((N : Int) - 1) = ((N - 1 : Nat) : Int) := by rw [wrap_i64 (by omega)]; omega
    have hm : (lines.map AV.str)[N - 1]? = some (.str ℓ) := by simp [hℓ]
    simp -implicitDefEqProofs (maxDischargeDepth := 15) only [↓reduceIte, Yr, Ys, Yt, Yv, Wa, Wb, Wd, We, Wi, Wj, Wk, Wl, Wo, Wp, Ws, opA, Wv, Ww, Wx, Wy, Wz, Za, Zb, Vb, partA, Zh, Zi, Zk, binA, and_self, Yf, Vu, Vv, Yj, eq_self, c42_42, c42_43, c42_44, c42_45, c42_46, c42_47, c42_48, d2, e2, e3, hc, hg, hkl, hm, w3, Nat.mul_one, lk_e, show (((0 : Nat) : Int) == 0) = true from rfl]
    refine RunV.to (contains_calls hk0 _ _ (by omega)) ?_
    rw [hct]
    simp -implicitDefEqProofs (maxDischargeDepth := 15) only [↓reduceIte, Yr, Ys, Yt, Wh, Wo, Wu, opA, Wv, Wx, Wy, Wz, Za, Zb, Vb, EndOk, resultA, oneOf, Zz, eq_self]
end Go.Am
