/-
  A PART of the proof: OrW19, OrW25, OrW26, OrW27, OrW28, OrW29, OrW30, OrW31, OrW32, OrW33, OrW34, OrW21, OrW22.
-/
import Derived.Test.YtnpfcgeikgbkbaaGreatDoorT06
import Derived.Test.YtnpfcgeikgbkbaaGreatDoorT05
set_option linter.unusedSimpArgs false
set_option linter.unusedVariables false
namespace Go.Am
open Go.RowKit Go.Proofs Do
set_option maxRecDepth 100000
theorem bsw {e : Nat} {σ1 σ' : AState} {v0 p2 : AV} {k : Nat} {so : Option (Nat × Nat)} {sn : Nat} {sc : Option Nat} {sz : Nat} {s : List F} {cs : List AV} (hS : Stk e σ1 σ' so sn sc sz s cs) (hsn : sn ≤ 20) {x : Nat} (hx : x < 256) {j1 j8 j9 j10 j11 j12 j13 j14 j15 j16 j17 j18 j19 j20 j21 j22 j23 j24 j25 j26 j27 j28 j29 j30 j31 j32 j33 j34 j35 j36 j37 j38 j39 j40 j41 j42 j43 j44 j45 j46 j47 j48 j49 j50 j51 j52 j53 j54 j55 j56 j57 j58 j59 j60 j61 j62 j63 j64 j65 j66 j67 j68 j69 j70 j71 j72 j73 j74 j75 j76 j77 j78 j79 j80 j81 j82 j83 j84 j85 j86 j87 j88 j89 j90 j91 j92 j93 j94 j95 j96 j97 j98 j99 j100 j101 j102 j103 j104 j105 j106 j107 j108 j109 j110 j111 j112 j113 j114 j115 j116 j117 j118 j119 j120 j121 j122 j123 j124 j125 j126 j127 j128 j129 j130 j131 j132 j133 j134 j135 j136 j137 j138 j139 j140 j141 j142 j143 j144 j145 j146 j147 j148 j149 j150 j151 j152 j153 j154 j155 j156 j157 j158 j159 j160 j161 j162 j163 j164 j165 j166 j167 j168 j169 j170 j171 j172 j173 j174 j175 j176 j177 j178 j179 j180 j181 j182 j183 j184 j185 j186 j187 j188 j189 j190 j191 : AV} {Q : Ex → List AV → AState → Prop}
    (hQ : ∀ (σ'' : AState) (so' : Option (Nat × Nat)) (sn' : Nat) (sc' : Option Nat) (sz' : Nat) (cs' : List AV) (j1 j5 j6 j7 j8 j9 j10 j11 j12 j13 j14 j15 j16 j17 j18 j19 j20 j21 j22 j23 j24 j25 j26 j27 j28 j29 j30 j31 j32 j33 j34 j35 j36 j37 j38 j39 j40 j41 j42 j43 j44 j45 j46 j47 j48 j49 j50 j51 j52 j53 j54 j55 j56 j57 j58 j59 j60 j61 j62 j63 j64 j65 j66 j67 j68 j69 j70 j71 j72 j73 j74 j75 j76 j77 j78 j79 j80 j81 j82 j83 j84 j85 j86 j87 j88 j89 j90 j91 j92 j93 j94 j95 j96 j97 j98 j99 j100 j101 j102 j103 j104 j105 j106 j107 j108 j109 j110 j111 j112 j113 j114 j115 j116 j117 j118 j119 j120 j121 j122 j123 j124 j125 j126 j127 j128 j129 j130 j131 j132 j133 j134 j135 j136 j137 j138 j139 j140 j141 j142 j143 j144 j145 j146 j147 j148 j149 j150 j151 j152 j153 j154 j155 j156 j157 j158 j159 j160 j161 j162 j163 j164 j165 j166 j167 j168 j169 j170 j171 j172 j173 j174 j175 j176 j177 j178 j179 j180 j181 j182 j183 j184 j185 j186 j187 j188 j189 j190 j191 : AV), Stk e σ1 σ'' so' sn' sc' sz' (bStep s x) cs' → sn' ≤ sn + 1 → Q .normal [v0, j1, p2, .slice so' sn' sc' sz', .int .i64 k, j5, j6, j7, j8, j9, j10, j11, j12, j13, j14, j15, j16, j17, j18, j19, j20, j21, j22, j23, j24, j25, j26, j27, j28, j29, j30, j31, j32, j33, j34, j35, j36, j37, j38, j39, j40, j41, j42, j43, j44, j45, j46, j47, j48, j49, j50, j51, j52, j53, j54, j55, j56, j57, j58, j59, j60, j61, j62, j63, j64, j65, j66, j67, j68, j69, j70, j71, j72, j73, j74, j75, j76, j77, j78, j79, j80, j81, j82, j83, j84, j85, j86, j87, j88, j89, j90, j91, j92, j93, j94, j95, j96, j97, j98, j99, j100, j101, j102, j103, j104, j105, j106, j107, j108, j109, j110, j111, j112, j113, j114, j115, j116, j117, j118, j119, j120, j121, j122, j123, j124, j125, j126, j127, j128, j129, j130, j131, j132, j133, j134, j135, j136, j137, j138, j139, j140, j141, j142, j143, j144, j145, j146, j147, j148, j149, j150, j151, j152, j153, j154, j155, j156, j157, j158, j159, j160, j161, j162, j163, j164, j165, j166, j167, j168, j169, j170, j171, j172, j173, j174, j175, j176, j177, j178, j179, j180, j181, j182, j183, j184, j185, j186, j187, j188, j189, j190, j191] σ'') :
    wpC RR Tryz.prog c21_31 [v0, j1, p2, .slice so sn sc sz, .int .i64 k, .int .i64 sn, .int .u8 (x / 12 : Nat), .int .u8 (x % 12 : Nat), j8, j9, j10, j11, j12, j13, j14, j15, j16, j17, j18, j19, j20, j21, j22, j23, j24, j25, j26, j27, j28, j29, j30, j31, j32, j33, j34, j35, j36, j37, j38, j39, j40, j41, j42, j43, j44, j45, j46, j47, j48, j49, j50, j51, j52, j53, j54, j55, j56, j57, j58, j59, j60, j61, j62, j63, j64, j65, j66, j67, j68, j69, j70, j71, j72, j73, j74, j75, j76, j77, j78, j79, j80, j81, j82, j83, j84, j85, j86, j87, j88, j89, j90, j91, j92, j93, j94, j95, j96, j97, j98, j99, j100, j101, j102, j103, j104, j105, j106, j107, j108, j109, j110, j111, j112, j113, j114, j115, j116, j117, j118, j119, j120, j121, j122, j123, j124, j125, j126, j127, j128, j129, j130, j131, j132, j133, j134, j135, j136, j137, j138, j139, j140, j141, j142, j143, j144, j145, j146, j147, j148, j149, j150, j151, j152, j153, j154, j155, j156, j157, j158, j159, j160, j161, j162, j163, j164, j165, j166, j167, j168, j169, j170, j171, j172, j173, j174, j175, j176, j177, j178, j179, j180, j181, j182, j183, j184, j185, j186, j187, j188, j189, j190, j191] σ' Q := by
  have h12 : x % 12 < 12 := Nat.mod_lt _ (by omega)
  by_cases h1 : x % 12 < 2
  · exact bsw1 hS hsn hx h1 hQ
  by_cases h2 : x % 12 < 4
  · exact bsw2 hS hsn hx ⟨by omega, h2⟩ hQ
  by_cases h3 : x % 12 = 4
  · exact bsw3 hS hsn hx h3 hQ
  by_cases h4 : x % 12 = 5
  · exact bsw4 hS hsn hx h4 hQ
  by_cases h5 : x % 12 = 6 ∧ 1 ≤ sn
  · exact bsw5 hS hsn hx h5 hQ
  by_cases h6 : 7 ≤ x % 12 ∧ x % 12 < 10 ∧ 2 ≤ sn
  · exact bsw6 hS hsn hx h6 hQ
  by_cases h7 : 10 ≤ x % 12 ∧ 1 ≤ sn
  · exact bsw7 hS hsn hx h7 hQ
  · exact bsw8 hS hsn hx (by omega) hQ
theorem list_range {ts : List AV} {n : Nat} (h : ts.length = n) : ts = (List.range n).map (fun i => ts.getD i U) := by
  refine List.ext_getElem? fun i => ?_
  rw [List.getElem?_map]
  rcases Nat.lt_or_ge i n with q | q
  · rw [List.getElem?_range q, List.getElem?_eq_getElem (by omega)]
    simp [List.getD, List.getElem?_eq_getElem (show i < ts.length by omega)]
  · rw [List.getElem?_eq_none (by omega), List.getElem?_eq_none (by simpa using q)]; rfl
structure BLive (ts : List AV) (v0 v2 v3 v4 : AV) : Prop where
  len : ts.length = 192
  t0 : ts.getD 0 U = v0
  t2 : ts.getD 2 U = v2
  t3 : ts.getD 3 U = v3
  t4 : ts.getD 4 U = v4
theorem BLive.open {ts : List AV} {v0 v2 v3 v4 : AV} (h : BLive ts v0 v2 v3 v4) : ∃ a : Nat → AV, ts = [v0, a 1, v2, v3, v4, a 5, a 6, a 7, a 8, a 9, a 10, a 11, a 12, a 13, a 14, a 15, a 16, a 17, a 18, a 19, a 20, a 21, a 22, a 23, a 24, a 25, a 26, a 27, a 28, a 29, a 30, a 31, a 32, a 33, a 34, a 35, a 36, a 37, a 38, a 39, a 40, a 41, a 42, a 43, a 44, a 45, a 46, a 47, a 48, a 49, a 50, a 51, a 52, a 53, a 54, a 55, a 56, a 57, a 58, a 59, a 60, a 61, a 62, a 63, a 64, a 65, a 66, a 67, a 68, a 69, a 70, a 71, a 72, a 73, a 74, a 75, a 76, a 77, a 78, a 79, a 80, a 81, a 82, a 83, a 84, a 85, a 86, a 87, a 88, a 89, a 90, a 91, a 92, a 93, a 94, a 95, a 96, a 97, a 98, a 99, a 100, a 101, a 102, a 103, a 104, a 105, a 106, a 107, a 108, a 109, a 110, a 111, a 112, a 113, a 114, a 115, a 116, a 117, a 118, a 119, a 120, a 121, a 122, a 123, a 124, a 125, a 126, a 127, a 128, a 129, a 130, a 131, a 132, a 133, a 134, a 135, a 136, a 137, a 138, a 139, a 140, a 141, a 142, a 143, a 144, a 145, a 146, a 147, a 148, a 149, a 150, a 151, a 152, a 153, a 154, a 155, a 156, a 157, a 158, a 159, a 160, a 161, a 162, a 163, a 164, a 165, a 166, a 167, a 168, a 169, a 170, a 171, a 172, a 173, a 174, a 175, a 176, a 177, a 178, a 179, a 180, a 181, a 182, a 183, a 184, a 185, a 186, a 187, a 188, a 189, a 190, a 191] := by
  have h1 := list_range h.len
  refine ⟨fun i => ts.getD i U, ?_⟩
  rw [← h.t0, ← h.t2, ← h.t3, ← h.t4]
  exact h1
structure BLive2 (ts : List AV) (v2 v3 v8 v9 : AV) : Prop where
  len : ts.length = 192
  t2 : ts.getD 2 U = v2
  t3 : ts.getD 3 U = v3
  t8 : ts.getD 8 U = v8
  t9 : ts.getD 9 U = v9
theorem BLive2.open {ts : List AV} {v2 v3 v8 v9 : AV} (h : BLive2 ts v2 v3 v8 v9) : ∃ a : Nat → AV, ts = [a 0, a 1, v2, v3, a 4, a 5, a 6, a 7, v8, v9, a 10, a 11, a 12, a 13, a 14, a 15, a 16, a 17, a 18, a 19, a 20, a 21, a 22, a 23, a 24, a 25, a 26, a 27, a 28, a 29, a 30, a 31, a 32, a 33, a 34, a 35, a 36, a 37, a 38, a 39, a 40, a 41, a 42, a 43, a 44, a 45, a 46, a 47, a 48, a 49, a 50, a 51, a 52, a 53, a 54, a 55, a 56, a 57, a 58, a 59, a 60, a 61, a 62, a 63, a 64, a 65, a 66, a 67, a 68, a 69, a 70, a 71, a 72, a 73, a 74, a 75, a 76, a 77, a 78, a 79, a 80, a 81, a 82, a 83, a 84, a 85, a 86, a 87, a 88, a 89, a 90, a 91, a 92, a 93, a 94, a 95, a 96, a 97, a 98, a 99, a 100, a 101, a 102, a 103, a 104, a 105, a 106, a 107, a 108, a 109, a 110, a 111, a 112, a 113, a 114, a 115, a 116, a 117, a 118, a 119, a 120, a 121, a 122, a 123, a 124, a 125, a 126, a 127, a 128, a 129, a 130, a 131, a 132, a 133, a 134, a 135, a 136, a 137, a 138, a 139, a 140, a 141, a 142, a 143, a 144, a 145, a 146, a 147, a 148, a 149, a 150, a 151, a 152, a 153, a 154, a 155, a 156, a 157, a 158, a 159, a 160, a 161, a 162, a 163, a 164, a 165, a 166, a 167, a 168, a 169, a 170, a 171, a 172, a 173, a 174, a 175, a 176, a 177, a 178, a 179, a 180, a 181, a 182, a 183, a 184, a 185, a 186, a 187, a 188, a 189, a 190, a 191] := by
  have h1 := list_range h.len
  refine ⟨fun i => ts.getD i U, ?_⟩
  rw [← h.t2, ← h.t3, ← h.t8, ← h.t9]
  exact h1
theorem untils_take {f : F} {r : List F} {j : Nat} {g : F} (h : r[j]? = some g) : untils f (r.take (j + 1)) = .mk 14 [] [] [untils f (r.take j), g] := by
  unfold untils
  rw [foldl_take _ _ h]
theorem kept_but {σ3 σ'' : AState} {i8 e : Nat} (h : Kept (fun i => i = i8) σ3 σ'') : Sub (but e σ3 (some (i8, 0))) (but e σ'' (some (i8, 0))) := fun j b q => by
  obtain ⟨h1, h2, h3⟩ := but_some q
  exact but_mk h1 (h.keep j b (fun w => h1 (by rw [w])) h2) h3
set_option maxHeartbeats 4000000 in
theorem built_tail {σ σ' : AState} {ts : List AV} {v0 v4 : AV} {so : Option (Nat × Nat)} {sn : Nat} {sc : Option Nat} {sz : Nat} {s : List F} {cs : List AV} (hLv0 : BLive ts v0 (.ptr (some (σ.next, 0))) (.slice so sn sc sz) v4) (hW : σ.Wf) (hS : Stk σ.next (σ.push (.cells [.int .u8 0, .str [], nilA, nilA] true)) σ' so sn sc sz s cs) (hsn : sn ≤ 20) :
    wpC RR Tryz.prog c21_54 ts σ' (EndOk [(2, some (some 4))] (fun u σ' => ∃ xs, u = .agg xs ∧ DAtL (newer σ σ') (match s with | [] => F.mk 2 [] [] [] | f :: r => untils f r).dv xs ∧ Grow σ σ')) := by
  obtain ⟨a, rfl⟩ := hLv0.open
  have hW1 := hW.push (.cells [.int .u8 0, .str [], nilA, nilA] true)
  have hG : Grow σ σ' := ⟨Nat.le_of_succ_le hS.grown.le, fun i b e => hS.grown.keep i b (sub_push hW _ i b e), hS.grown.wf⟩
  have h2 : σ'.get σ.next = some (.cells [.int .u8 0, .str [], nilA, nilA] true) := hS.grown.keep _ _ Vg
  have h2l := hS.grown.wf.lt h2
  have hlen := hS.len
  cases s with
  | nil =>
    have hs0 : sn = 0 := by simpa using hlen.symm
    subst hs0
    simp -implicitDefEqProofs (maxDischargeDepth := 15) only [↓reduceIte, Yr, Ys, Yt, Yz, Wb, Wj, Wk, Wl, Wo, opA, Wv, Ww, Wx, Wy, Wz, Za, Zb, Vb, Zh, Zi, binA, eq_self, c21_40, c21_41, c21_42, c21_43, c21_44, c21_45, c21_46, c21_47, c21_48, c21_49, c21_50, c21_51, c21_52, c21_53, c21_54, show (((0 : Nat) : Int) == 0) = true from rfl]
    refine RunV.to (joinB_ok _ _ _ _ _ _) ?_
    simp -implicitDefEqProofs (maxDischargeDepth := 15) only [↓reduceIte, Yr, Ys, Yt, Wh, Wo, Wq, Wu, opA, Wv, Wx, Wy, Wz, Va, Za, Zb, Zd, Ze, Vb, Vc, Ve, AV.cells, Vh, Vk, partA, Zf, Zg, Nat.reduceAdd, Zj, Zk, Zm, Zn, Zo, Zp, Zs, Zt, putL, allOne, Zu, Zv, AV.one, Zy, and_self, EndOk, resultA, oneOf, eq_self, h2, h2l]
    exact ⟨_, rfl, fdat (dat_nil _ 3) (dat_nil _ 4), (hG.push _).set hW (Nat.le_refl _) (by simp only [AState.push_next]; omega) _⟩
  | cons f r =>
    have c0 : ((sn : Int) == 0) = false := by simp only [beq_eq_false_iff_ne]; simp only [List.length_cons] at hlen; omega
    obtain ⟨rfl, i, xs, rfl, hgi, hl4, hxs, hd⟩ := hS.elem (k := 0) (f := f) rfl
    simp only [Nat.zero_mul, Nat.zero_add, List.drop_zero] at hl4 hxs
    obtain ⟨fo, fn, fa, fl, ef⟩ := form_is f
    have hd0 := hd
    rw [ef] at hd
    obtain ⟨o1, q1, z1, o2, q2, z2, rfl, _, _⟩ := F.cells hd
    have e0 : (0 : Int) ≤ 0 ∧ (0 : Int) < (sn : Int) := by simp only [List.length_cons] at hlen; omega
    have hil := hS.grown.wf.lt hgi
    simp -implicitDefEqProofs (maxDischargeDepth := 15) only [↓reduceIte, Yr, Ys, Yt, Wa, Wg, Wj, Wk, Wl, Wm, Wo, opA, Wv, Ww, Wx, Wy, Wz, Va, Za, Zb, Zd, Ze, Vb, Vc, Vd, Ve, AV.cells, Vg, Vn, partA, Zf, Zg, Nat.reduceAdd, Zj, Zk, Zl, Zm, Zn, Zp, Zs, binA, putL, allOne, Zu, Zv, AV.one, Zy, and_self, eq_self, Yl, Ym, c21_40, c21_41, c21_42, c21_43, c21_44, c21_45, c21_46, c21_47, c21_48, c21_49, c21_50, c21_51, c21_52, c21_53, c21_54, c0, e0, hgi, hl4, hxs]
    have hWs := hS.grown.wf
    have hS3 := hS.push (.cells [.int .u8 fo, .str fn, .slice o1 fa.length q1 z1, .slice o2 fl.length q2 z2] true)
    have hG3 := hG.push (.cells [.int .u8 fo, .str fn, .slice o1 fa.length q1 z1, .slice o2 fl.length q2 z2] true)
    have hd3 : DAtL (but σ.next (σ'.push (.cells [.int .u8 fo, .str fn, .slice o1 fa.length q1 z1, .slice o2 fl.length q2 z2] true)) (some (σ'.next, 0))) f.dv [.int .u8 fo, .str fn, .slice o1 fa.length q1 z1, .slice o2 fl.length q2 z2] := by
      refine DAtL.sub (fun j b q => ?_) _ _ hd0
      obtain ⟨h1, h2, h3⟩ := but_some q
      exact but_mk (fun w => by cases w; have := hWs.lt h2; omega) (sub_push hWs _ j b h2) h3
    refine wp_loop (fun ts σ'' m => ∃ (j : Nat) (ys : List AV), Kept (fun i => i = σ'.next) (σ'.push (.cells [.int .u8 fo, .str fn, .slice o1 fa.length q1 z1, .slice o2 fl.length q2 z2] true)) σ'' ∧ σ''.get σ'.next = some (.cells ys true) ∧
      DAtL (but σ.next σ'' (some (σ'.next, 0))) (untils f (r.take j)).dv ys ∧ j + 1 + m = sn ∧ BLive2 ts (.ptr (some (σ.next, 0))) (.slice (some (i, 0)) sn sc 4) (.ptr (some (σ'.next, 0))) (.int .i64 ((j + 1 : Nat) : Int))) (sn - 1)
      ⟨0, _, Kept.refl (hWs.push _), Vg, hd3, by simp only [List.length_cons] at hlen; omega, rfl, rfl, rfl, rfl, rfl⟩ ?_
    rintro m ts σ'' ⟨j, ys, hK, hg8, hdy, hjm, hLv⟩
    obtain ⟨a, rfl⟩ := hLv.open
    have h8l := hK.wf.lt hg8
    obtain ⟨uo, un, ua, ul, eu⟩ := form_is (untils f (r.take j))
    have hdy0 := hdy
    rw [eu] at hdy
    obtain ⟨p1, p2, p3, p4, p5, p6, rfl, _, _⟩ := F.cells hdy
    by_cases hlt : j + 1 < sn
    · have c1 : decide (((j + 1 : Nat) : Int) < (sn : Int)) = true := decide_eq_true (by omega)
      obtain ⟨g, hg, _⟩ := get_lt (l := r) (k := j) (by simp only [List.length_cons] at hlen; omega)
      obtain ⟨_, i2, zs, e2, hgi2, hl42, hzs, hdg⟩ := hS.elem (k := j + 1) (f := g) (by simpa using hg)
      cases e2
      obtain ⟨go, gn, ga, gl, eg⟩ := form_is g
      have hdg0 := hdg
      rw [eg] at hdg
      obtain ⟨r1, r2, r3, r4, r5, r6, rfl, _, _⟩ := F.cells hdg
      have hgk := hK.keep i _ (by omega) (sub_push hWs _ _ _ hgi)
      have hgkl := hK.wf.lt hgk
      have e4 : (0 : Int) ≤ ((j + 1 : Nat) : Int) ∧ ((j + 1 : Nat) : Int) < (sn : Int) := by omega
      have hne8 : i ≠ σ'.next := by omega
      simp -implicitDefEqProofs (maxDischargeDepth := 15) only [↓reduceIte, Yr, Ys, Yt, Yz, Wb, Wg, Wj, Wk, Wl, Wm, Wo, Wp, Wq, Ws, Wt, opA, Wv, Ww, Wx, Wy, Wz, Za, Zb, Zc, Zd, Ze, Vb, Vc, Vd, AV.cells, partA, Zf, Zg, Zh, Zi, Nat.reduceAdd, Nat.reduceLeDiff, Zj, Zk, Zm, Zn, Zo, Zp, Zs, Zt, binA, fillA, and_self, EndOk, resultA, oneOf, Yf, eq_self, Yp, e4, hg8, hgk, hl42, hzs]
      refine RunV.to (joinB_ok _ _ _ _ _ _) ?_
      have h8n : σ'.next < σ''.next := h8l
      simp -implicitDefEqProofs (maxDischargeDepth := 15) only [↓reduceIte, Yr, Ys, Yt, Wj, Wo, Wr, Wu, opA, Wv, Ww, Wx, Wy, Wz, Va, Za, Zb, Zd, Ze, Vb, Vc, Ve, AV.cells, Vh, Vj, Vk, Zf, Zg, Nat.reduceAdd, Zj, Zk, Zn, Zp, Zs, binA, putL, allOne, Zu, Zv, AV.one, Zy, and_self, eq_self, hg8, h8l]
      rw [wrap_i64 (n := ((j + 1 : Nat) : Int) + 1) (by omega)]
      have hW5 := hK.wf
      have hk5 : Kept (fun i => i = σ'.next) σ'' ((((σ''.push (.cells [.int .u8 uo, .str un, .slice p1 ua.length p2 p3, .slice p4 ul.length p5 p6, .int .u8 go, .str gn, .slice r1 ga.length r2 r3, .slice r4 gl.length r5 r6] true)).push (.cells [.int .u8 14, .str [], nilA, .slice (some (σ''.next, 0)) 2 (some 2) 4] true)).set σ'.next (.cells [.int .u8 14, .str [], nilA, .slice (some (σ''.next, 0)) 2 (some 2) 4] true))) :=
        ⟨by simp only [AState.set_next, AState.push_next]; omega, fun i b hi e => by rw [Vl hi]; exact sub_push (hW5.push _) _ i b (sub_push hW5 _ i b e), ((hW5.push _).push _).set (by simp only [AState.push_next]; omega) _⟩
      refine ⟨m - 1, by omega, j + 1, _, hK.trans hk5, rfl, ?_, by omega, rfl, rfl, rfl, rfl, rfl⟩
      rw [untils_take hg]
      refine fdat (dat_nil _ 3) ?_
      refine dat_sl (cs := [.int .u8 uo, .str un, .slice p1 ua.length p2 p3, .slice p4 ul.length p5 p6] ++ [.int .u8 go, .str gn, .slice r1 ga.length r2 r3, .slice r4 gl.length r5 r6]) (w := true) (some 2) (but_mk (fun w => by simp only [Option.some.injEq, Prod.mk.injEq] at w; omega) ?_ (by have := hS.el; omega)) rfl ?_
      · rw [Vl (by omega), Vh Vi, Vg]; rfl
      · show DAtL _ ((untils f (r.take j)).dv ++ (g.dv ++ [])) _
        rw [List.append_nil]
        refine DAtL.append_iff.2 ⟨_, _, rfl, DAtL.sub (kept_but hk5) _ _ hdy0, ?_⟩
        refine DAtL.sub (fun j b q => ?_) _ _ hdg0
        obtain ⟨h1, h2, h3⟩ := but_some q
        have hjl := hWs.lt h2
        exact but_mk (fun w => by cases w; omega) (hk5.keep j b (by omega) (hK.keep j b (by omega) (sub_push hWs _ j b h2))) h3
    · have c1 : decide (((j + 1 : Nat) : Int) < (sn : Int)) = false := decide_eq_false (by omega)
      have hrt : r.take j = r := List.take_of_length_le (by simp only [List.length_cons] at hlen; omega)
      rw [hrt] at hdy0
      have h2k := hK.keep σ.next _ (by omega) (sub_push hWs _ _ _ h2)
      have h2kl := hK.wf.lt h2k
      simp -implicitDefEqProofs (maxDischargeDepth := 15) only [↓reduceIte, Yr, Ys, Yt, Wa, Wh, Wi, Wj, Wk, Wl, Wo, Wp, Wq, Ws, Wt, opA, Wv, Wx, Wy, Wz, Va, Za, Zb, Zd, Ze, Vb, Vc, Ve, AV.cells, Vk, partA, Zf, Zg, Nat.reduceAdd, Zj, Zk, Zm, Zn, Zo, Zp, Zs, Zt, binA, putL, allOne, Zu, Zv, AV.one, Zy, and_self, EndOk, resultA, oneOf, eq_self, c1, hg8, h2k]
      refine ⟨_, rfl, DAtL.sub (fun j b q => ?_) _ _ hdy0, ?_⟩
      · obtain ⟨h1, h2, h3⟩ := but_some q
        refine newer_mk (by omega) ?_
        rw [Vl (by omega)]; exact h2
      · refine (Grow.mk (Nat.le_trans hG3.le hK.le) (fun i b e => hK.keep i b (by have := hW.lt e; omega) (hG3.sub i b e)) hK.wf).set hW (Nat.le_refl _) h2kl _
set_option maxHeartbeats 4000000 in
theorem builtN_ok {σ : AState} {o : Option (Nat × Nat)} {n : Nat} {c : Option Nat} {z : Nat} {l : List Nat} (hB : Bys σ.get o n z l) (hx : ∀ x ∈ l, x < 256) :
    RunF RR Tryz.prog n_law30_Built [.slice o n c z] σ (fun u σ' => ∃ xs, u = .agg xs ∧ DAtL (newer σ σ') (built l).dv xs ∧ Grow σ σ') := by
  refine RunV.wf fun hW => ?_
  refine runF_intro hmx rf_law30_Built ?_
  have hlen := hB.len
  have hW1 := hW.push (.cells [.int .u8 0, .str [], nilA, nilA] true)
  have hB1 := hB.sub (sub_push hW (.cells [.int .u8 0, .str [], nilA, nilA] true))
  simp -implicitDefEqProofs (maxDischargeDepth := 15) only [Yr, Ys, Yt, Wj, Wk, Wm, Wo, opA, Ww, Wz, Za, Zb, List.replicate, Zc, Zd, Ze, Vb, Vc, Vd, Zf, Zg, Nat.reduceSub, Zk, i_law30_Built, c21_0, c21_32, c21_33, c21_34, c21_35, c21_36, c21_37, c21_38, c21_39, c21_55, c21_56, c21_57]
  have h0 : Stk σ.next (σ.push (.cells [.int .u8 0, .str [], nilA, nilA] true)) (σ.push (.cells [.int .u8 0, .str [], nilA, nilA] true)) none 0 (some 0) 0 ((l.take 0).foldl bStep []) [] :=
    ⟨Grown.nil hW1 hW1 (fun _ _ e => e) (Nat.le_refl _) _ _ _, by simp [F.dvs, DAtL], rfl, Nat.lt_succ_self _⟩
  refine wp_loop (fun ts σ' m => ∃ (k : Nat) (so : Option (Nat × Nat)) (sn : Nat) (sc : Option Nat) (sz : Nat) (cs : List AV), Stk σ.next (σ.push (.cells [.int .u8 0, .str [], nilA, nilA] true)) σ' so sn sc sz ((l.take k).foldl bStep []) cs ∧ sn ≤ k ∧ k ≤ 20 ∧ k + m = min n 20 ∧
    BLive ts (.slice o n c z) (.ptr (some (σ.next, 0))) (.slice so sn sc sz) (.int .i64 k)) (min n 20) ⟨0, none, 0, some 0, 0, [], h0, Nat.le_refl _, by omega, by omega, rfl, rfl, rfl, rfl, rfl⟩ ?_
  rintro m ts σ' ⟨k, so, sn, sc, sz, cs, hS, hsk, hk20, hkm, hLv⟩
  obtain ⟨a, rfl⟩ := hLv.open
  have hsn : (((l.take k).foldl bStep []).length) = sn := hS.len
  by_cases hlt : k < min n 20
  · obtain ⟨x, hxk, hxm⟩ := get_lt (l := l) (k := k) (by omega)
    have hx8 := hx x hxm
    obtain ⟨rfl, i, off, bs, w, rfl, hg, hbe⟩ := (hB1.sub hS.grown.keep).elem hxk
    have c1 : decide ((k : Int) < (n : Int)) = true := decide_eq_true (by omega)
    have c2 : decide ((k : Int) < 20) = true := decide_eq_true (by omega)
    have e1 : (0 : Int) ≤ (k : Int) ∧ (k : Int) < (n : Int) := by omega
    have d12 : wrapF .u8 ((x : Int).tdiv 12) = ((x / 12 : Nat) : Int) := by rw [show (12 : Int) = ((12 : Nat) : Int) from rfl, tdivN, wrap_u8 (by omega)]
    have m12 : (x : Int).tmod 12 = ((x % 12 : Nat) : Int) := tmodN x 12
    have z12 : ((12 : Int) = 0) = False := by simp
    simp -implicitDefEqProofs (maxDischargeDepth := 15) only [↓reduceIte, Yr, Ys, Yt, Yv, Yz, Wc, Wd, Wg, Wj, Wk, Wl, Wm, Wo, Wp, Wq, Ws, Wt, opA, Wv, Ww, Wx, Wy, Wz, Za, Zb, Vb, partA, binA, and_self, true_and, EndOk, resultA, oneOf, Yf, againOk, Vu, Vv, Yj, eq_self, Yp, c2, e1, hg, hbe, d12, m12, z12, Nat.mul_one]
    refine bsw hS (by omega) hx8 ?_
    intro σ'' so' sn' sc' sz' cs'
    iterate 188 intro _
    intro hS' hsn'
    simp -implicitDefEqProofs (maxDischargeDepth := 15) only [↓reduceIte, Yr, Ys, Yt, Wj, Wo, Wr, opA, Wv, Ww, Wx, Wy, Wz, Za, Zb, Vb, binA, eq_self]
    rw [wrap_i64 (n := (k : Int) + 1) (by omega)]
    refine ⟨m - 1, by omega, k + 1, so', sn', sc', sz', cs', ?_, by omega, by omega, by omega, rfl, rfl, rfl, rfl, rfl⟩
    rw [foldl_take bStep [] hxk]
    exact hS'
  · have hkk : l.take k = l.take 20 := by
      rcases Nat.lt_or_ge n 20 with q | q
      · rw [List.take_of_length_le (by omega), List.take_of_length_le (by omega)]
      · rw [show k = 20 by omega]
    rw [hkk] at hS hsn
    have hq : built l = (match (l.take 20).foldl bStep [] with | [] => F.mk 2 [] [] [] | f :: r => untils f r) := rfl
    rw [hq]
    rcases Nat.lt_or_ge k n with q | q
    · have c1 : decide ((k : Int) < (n : Int)) = true := decide_eq_true (by omega)
      have c2 : decide ((k : Int) < 20) = false := decide_eq_false (by omega)
      simp -implicitDefEqProofs (maxDischargeDepth := 15) only [↓reduceIte, Yr, Ys, Yt, Yv, Wa, Wd, Wi, Wj, Wk, Wl, Wo, Wp, Wq, Ws, Wt, opA, Wv, Ww, Wx, Wy, Wz, Za, Zb, Vb, partA, binA, EndOk, resultA, oneOf, Vu, Vv, Yj, eq_self, c1, c2]
      exact built_tail ⟨rfl, rfl, rfl, rfl, rfl⟩ hW hS (by omega)
    · have c1 : decide ((k : Int) < (n : Int)) = false := decide_eq_false (by omega)
      simp -implicitDefEqProofs (maxDischargeDepth := 15) only [↓reduceIte, Yr, Ys, Yt, Yw, Wa, Wd, Wi, Wj, Wk, Wl, Wo, Wp, Wq, Ws, Wt, opA, Wv, Ww, Wx, Wy, Wz, Za, Zb, Vb, partA, binA, EndOk, resultA, oneOf, Yd, Vu, Vv, eq_self, Vx, c1]
      exact built_tail ⟨rfl, rfl, rfl, rfl, rfl⟩ hW hS (by omega)
theorem newer_sub (σ σ' : AState) : Sub (newer σ σ') σ'.get := fun _ _ e => (newer_some e).2
theorem built_ok {σ : AState} {o : Option (Nat × Nat)} {n : Nat} {c : Option Nat} {z : Nat} {l : List Nat} (hB : Bys σ.get o n z l) (hx : ∀ x ∈ l, x < 256) :
    RunF RR Tryz.prog n_law30_Built [.slice o n c z] σ (fun u σ' => ∃ xs, u = .agg xs ∧ DAtL σ'.get (built l).dv xs ∧ Grow σ σ') :=
  (builtN_ok hB hx).mono fun _ σ' ⟨xs, h1, h2, h3⟩ => ⟨xs, h1, DAtL.sub (newer_sub σ σ') _ _ h2, h3⟩
end Go.Am
namespace Go.Am
open Go.RowKit Go.Proofs Do
set_option maxRecDepth 100000
def mdv (l : List Nat) : DV := .sl 1 l.length (l.map fun (n : Nat) => .int .i64 (n : Int))
mutual
def Do.Pf.dv : Pf → List DV
  | .mk r f n s m => .str r :: (f.dv ++ [.int .i64 (n : Int), .sl 8 s.length (Pf.dvs s), .sl 1 m.length (m.map mdv)])
def Do.Pf.dvs : List Pf → List DV
  | [] => []
  | p :: r => p.dv ++ Pf.dvs r
end
theorem Do.Pf.dv_len : ∀ p : Pf, p.dv.length = 8
  | .mk r f n s m => by simp [Pf.dv, F.dv_len]
theorem Do.Pf.dvs_get : ∀ (l : List Pf) (k : Nat) (t : Pf), l[k]? = some t → ((Pf.dvs l).drop (k * 8)).take 8 = t.dv
  | [], k, t, h => by simp at h
  | a :: r, 0, t, h => by
    simp only [List.getElem?_cons_zero, Option.some.injEq] at h; subst h
    simp only [Pf.dvs, Nat.zero_mul, List.drop_zero]
    rw [List.take_append_of_le_length (by rw [Pf.dv_len]; omega), List.take_of_length_le (by rw [Pf.dv_len]; omega)]
  | a :: r, k + 1, t, h => by
    simp only [List.getElem?_cons_succ] at h
    simp only [Pf.dvs]
    rw [show (k + 1) * 8 = a.dv.length + k * 8 by rw [Pf.dv_len]; omega, List.drop_append, List.drop_eq_nil_of_le (by omega), List.nil_append, Nat.add_sub_cancel_left]
    exact Pf.dvs_get r k t h
theorem proof_is : ∀ p : Pf, ∃ r f n s m, p = .mk r f n s m
  | .mk r f n s m => ⟨r, f, n, s, m, rfl⟩
def Ps (g : Mem) (o : Option (Nat × Nat)) (n z : Nat) (l : List Pf) : Prop := n = l.length ∧ (n = 0 ∨ z = 8) ∧ (n = 0 ∨ ∃ i off cs w xs, o = some (i, off) ∧ g i = some (.cells cs w) ∧ off + n * 8 ≤ cs.length ∧ xs = (cs.drop off).take (n * 8) ∧ DAtL g (Pf.dvs l) xs)
def Ms (g : Mem) (o : Option (Nat × Nat)) (n z : Nat) (l : List (List Nat)) : Prop := n = l.length ∧ (n = 0 ∨ z = 1) ∧ (n = 0 ∨ ∃ i off cs w xs, o = some (i, off) ∧ g i = some (.cells cs w) ∧ off + n ≤ cs.length ∧ xs = (cs.drop off).take n ∧ DAtL g (l.map mdv) xs)
def Is (g : Mem) (o : Option (Nat × Nat)) (n z : Nat) (l : List Nat) : Prop := n = l.length ∧ (n = 0 ∨ z = 1) ∧ (n = 0 ∨ ∃ i off cs w, o = some (i, off) ∧ g i = some (.cells cs w) ∧ off + n ≤ cs.length ∧ (cs.drop off).take n = l.map fun (x : Nat) => AV.int .i64 x)
theorem Ps.sub {g h : Mem} (s : Sub g h) {o : Option (Nat × Nat)} {n z : Nat} {l : List Pf} (e : Ps g o n z l) : Ps h o n z l := by
  obtain ⟨a, b, c⟩ := e
  refine ⟨a, b, c.imp_right ?_⟩
  rintro ⟨i, off, cs, w, xs, h1, h2, h3, h4, h5⟩
  exact ⟨i, off, cs, w, xs, h1, s _ _ h2, h3, h4, DAtL.sub s _ _ h5⟩
theorem Ms.sub {g h : Mem} (s : Sub g h) {o : Option (Nat × Nat)} {n z : Nat} {l : List (List Nat)} (e : Ms g o n z l) : Ms h o n z l := by
  obtain ⟨a, b, c⟩ := e
  refine ⟨a, b, c.imp_right ?_⟩
  rintro ⟨i, off, cs, w, xs, h1, h2, h3, h4, h5⟩
  exact ⟨i, off, cs, w, xs, h1, s _ _ h2, h3, h4, DAtL.sub s _ _ h5⟩
theorem Is.sub {g h : Mem} (s : Sub g h) {o : Option (Nat × Nat)} {n z : Nat} {l : List Nat} (e : Is g o n z l) : Is h o n z l := by
  obtain ⟨a, b, c⟩ := e
  refine ⟨a, b, c.imp_right ?_⟩
  rintro ⟨i, off, cs, w, h1, h2, h3, h4⟩
  exact ⟨i, off, cs, w, h1, s _ _ h2, h3, h4⟩
theorem ints_dat {g : Mem} : ∀ {l : List Nat} {xs : List AV}, DAtL g (l.map fun (n : Nat) => DV.int .i64 (n : Int)) xs ↔ xs = l.map fun (n : Nat) => AV.int .i64 (n : Int)
  | [], xs => by simp [DAtL]
  | a :: l, xs => by
    simp only [List.map_cons]
    constructor
    · intro h
      obtain ⟨v, r, rfl, hv, hr⟩ := DAtL.cons_iff.1 h
      simp only [DAt] at hv
      rw [hv, ints_dat.1 hr]
    · rintro rfl
      exact DAtL.cons_iff.2 ⟨_, _, rfl, by simp only [DAt], ints_dat.2 rfl⟩
theorem mdv_cells {g : Mem} {l : List Nat} {v : AV} (h : DAt g (mdv l) v) : ∃ o c z, v = .slice o l.length c z ∧ Is g o l.length z l := by
  obtain ⟨o, c, z, rfl, h1, h2⟩ := dat_cells h
  refine ⟨o, c, z, rfl, rfl, h1, h2.imp_right ?_⟩
  rintro ⟨i, off, cs, w, xs, rfl, h3, h4, rfl, h5⟩
  exact ⟨i, off, cs, w, rfl, h3, by simpa using h4, by have := ints_dat.1 h5; simpa using this⟩
theorem Do.Pf.cells {g : Mem} {r : Str} {op : Nat} {nm : Str} {ar : List T} {l : List F} {n : Nat} {s : List Pf} {m : List (List Nat)} {xs : List AV} (h : DAtL g (Pf.mk r (.mk op nm ar l) n s m).dv xs) :
    ∃ o1 c1 z1 o2 c2 z2 o3 c3 z3 o4 c4 z4, xs = [.str r, .int .u8 op, .str nm, .slice o1 ar.length c1 z1, .slice o2 l.length c2 z2, .int .i64 (n : Int), .slice o3 s.length c3 z3, .slice o4 m.length c4 z4] ∧
      DAtL g (F.mk op nm ar l).dv [.int .u8 op, .str nm, .slice o1 ar.length c1 z1, .slice o2 l.length c2 z2] ∧ Ps g o3 s.length z3 s ∧ Ms g o4 m.length z4 m := by
  simp only [Pf.dv] at h
  obtain ⟨v, r1, e1, hv, k1⟩ := DAtL.cons_iff.1 h
  obtain ⟨x, y, e2, hf, k2⟩ := DAtL.append_iff.1 k1
  have hf0 := hf
  obtain ⟨o1, c1, z1, o2, c2, z2, e3, _, _⟩ := F.cells hf
  obtain ⟨v1, r2, e4, hv1, k3⟩ := DAtL.cons_iff.1 k2
  obtain ⟨v2, r3, e5, hv2, k4⟩ := DAtL.cons_iff.1 k3
  obtain ⟨v3, r4, e6, hv3, k5⟩ := DAtL.cons_iff.1 k4
  have e7 := DAtL.nil_iff.1 k5
  simp only [DAt] at hv hv1
  subst e7 hv hv1
  subst e6
  subst e5
  subst e4
  subst e3
  subst e2
  subst e1
  obtain ⟨o3, c3, z3, rfl, h1, h2⟩ := dat_cells hv2
  obtain ⟨o4, c4, z4, rfl, k1, k2⟩ := dat_cells hv3
  refine ⟨o1, c1, z1, o2, c2, z2, o3, c3, z3, o4, c4, z4, rfl, hf0, ⟨rfl, h1, h2⟩, rfl, k1, k2.imp_right ?_⟩
  rintro ⟨i, off, cs, w, xs, rfl, h3, h4, rfl, h5⟩
  exact ⟨i, off, cs, w, _, rfl, h3, by simpa using h4, rfl, by simpa using h5⟩
theorem pdat {g : Mem} {r : Str} {f : F} {fs : List AV} {n : Nat} {s : List Pf} {m : List (List Nat)} {v1 v2 : AV} (hf : DAtL g f.dv fs) (h1 : DAt g (.sl 8 s.length (Pf.dvs s)) v1) (h2 : DAt g (.sl 1 m.length (m.map mdv)) v2) :
    DAtL g (Pf.mk r f n s m).dv (.str r :: (fs ++ [.int .i64 (n : Int), v1, v2])) :=
  DAtL.cons_iff.2 ⟨_, _, rfl, by simp only [DAt], DAtL.append_iff.2 ⟨_, _, rfl, hf, DAtL.cons_iff.2 ⟨_, _, rfl, by simp only [DAt], DAtL.cons_iff.2 ⟨_, _, rfl, h1, DAtL.cons_iff.2 ⟨_, _, rfl, h2, DAtL.nil_iff.2 rfl⟩⟩⟩⟩⟩
structure Stq (e : Nat) (σ0 σ : AState) (so : Option (Nat × Nat)) (n : Nat) (c : Option Nat) (z : Nat) (s : List Pf) (cs : List AV) : Prop where
  grown : Grown σ0 σ so n c z 8 cs
  dat : DAtL (but e σ so) (Pf.dvs s) cs
  len : s.length = n
  elt : e < σ0.next
theorem Stq.el {e : Nat} {σ0 σ : AState} {so : Option (Nat × Nat)} {n : Nat} {c : Option Nat} {z : Nat} {s : List Pf} {cs : List AV} (h : Stq e σ0 σ so n c z s cs) : e < σ.next := Nat.lt_of_lt_of_le h.elt h.grown.le
theorem Stq.grow {e : Nat} {σ0 σ σ' : AState} {so : Option (Nat × Nat)} {n : Nat} {c : Option Nat} {z : Nat} {s : List Pf} {cs : List AV} (h : Stq e σ0 σ so n c z s cs) (k : Grow σ σ') : Stq e σ0 σ' so n c z s cs :=
  ⟨h.grown.grow k, DAtL.sub (but_sub k.sub) _ _ h.dat, h.len, h.elt⟩
theorem Stq.push {e : Nat} {σ0 σ : AState} {so : Option (Nat × Nat)} {n : Nat} {c : Option Nat} {z : Nat} {s : List Pf} {cs : List AV} (h : Stq e σ0 σ so n c z s cs) (b : ABlk) : Stq e σ0 (σ.push b) so n c z s cs :=
  h.grow ((Grow.refl h.grown.wf).push b)
theorem pdvs_append (a b : List Pf) : Pf.dvs (a ++ b) = Pf.dvs a ++ Pf.dvs b := by
  induction a with
  | nil => rfl
  | cons x a ih => simp only [List.cons_append, Pf.dvs, ih, List.append_assoc]
theorem pdvs_one (f : Pf) : Pf.dvs [f] = f.dv := by simp [Pf.dvs]
theorem pdvs_take (s : List Pf) (k : Nat) : Pf.dvs (s.take k) = (Pf.dvs s).take (k * 8) := by
  induction s generalizing k with
  | nil => simp [Pf.dvs]
  | cons a r ih =>
    cases k with
    | zero => simp [Pf.dvs]
    | succ k =>
      simp only [List.take_succ_cons, Pf.dvs, ih]
      rw [show (k + 1) * 8 = a.dv.length + k * 8 by rw [Pf.dv_len]; omega, List.take_length_add_append]
theorem Stq.append {e : Nat} {σ0 σ : AState} {so : Option (Nat × Nat)} {n : Nat} {c : Option Nat} {z : Nat} {s : List Pf} {cs : List AV} (h : Stq e σ0 σ so n c z s cs) {f : Pf} {xs : List AV} (hd : DAtL (but e σ so) f.dv xs) (ho : allOne xs = true) (hn : n ≤ 1000000) :
    ∃ i es, appendA σ.get σ.next 8 144 (.slice so n c z) 1 xs = some (.slice (some (i, 0)) (n + 1) none 8, es) ∧ Stq e σ0 (σ.app es) (some (i, 0)) (n + 1) none 8 (s ++ [f]) (cs ++ xs) := by
  have hxl : xs.length = 8 := by rw [hd.length, Pf.dv_len]
  obtain ⟨i, es, he, hG, hle, hk⟩ := h.grown.append (bytes := 144) (by omega) hxl ho (decide_eq_true (by omega))
  refine ⟨i, es, he, hG, ?_, by simp [h.len], h.elt⟩
  have hsub : Sub (but e σ so) (but e (σ.app es) (some (i, 0))) := fun j b e => by
    obtain ⟨h1, h2, h3⟩ := but_some e
    refine but_mk ?_ (hk j b (fun i' hi' q => by subst q; exact h1 hi') h2) h3
    intro q
    cases q
    have hj := h.grown.wf.lt h2
    have hi := appendA_new he
    omega
  rw [pdvs_append, pdvs_one]
  exact DAtL.append_iff.2 ⟨cs, xs, rfl, DAtL.sub hsub _ _ h.dat, DAtL.sub hsub _ _ hd⟩
theorem Stq.elem {e : Nat} {σ0 σ : AState} {so : Option (Nat × Nat)} {n : Nat} {c : Option Nat} {z : Nat} {s : List Pf} {cs : List AV} (h : Stq e σ0 σ so n c z s cs) {k : Nat} {f : Pf} (hk : s[k]? = some f) :
    z = 8 ∧ ∃ i xs, so = some (i, 0) ∧ σ.get i = some (.cells cs true) ∧ k * 8 + 8 ≤ cs.length ∧ (cs.drop (k * 8)).take 8 = xs ∧ DAtL (but e σ so) f.dv xs := by
  have hkl : k < s.length := by
    rcases Nat.lt_or_ge k s.length with q | q
    · exact q
    · rw [List.getElem?_eq_none q] at hk; cases hk
  have hl := h.grown.len
  have hn := h.len
  rcases h.grown.at' with ⟨_, q⟩ | ⟨_, hz, i, hi, _, hg⟩
  · omega
  · refine ⟨hz, i, _, hi, hg, by omega, rfl, ?_⟩
    have := (h.dat.drop (k * 8)).take 8
    rw [Pf.dvs_get s k f hk] at this
    exact this
theorem Stq.appendTake {e : Nat} {σ0 σ : AState} {so : Option (Nat × Nat)} {n : Nat} {c : Option Nat} {z : Nat} {s : List Pf} {cs : List AV} (h : Stq e σ0 σ so n c z s cs) {i k : Nat} (hso : so = some (i, 0)) (hk : k ≤ n) {f : Pf} {xs : List AV} (hd : DAtL (but e σ so) f.dv xs) (hn : n ≤ 1000000) :
    appendA σ.get σ.next 8 144 (.slice so k (some k) 8) 1 xs = some (.slice (some (σ.next, 0)) (k + 1) none 8, [.push (.cells (cs.take (k * 8) ++ xs) true)]) ∧
    Stq e σ0 (σ.push (.cells (cs.take (k * 8) ++ xs) true)) (some (σ.next, 0)) (k + 1) none 8 (s.take k ++ [f]) (cs.take (k * 8) ++ xs) := by
  subst hso
  have hxl : xs.length = 8 := by rw [hd.length, Pf.dv_len]
  have hl := h.grown.len
  rcases h.grown.at' with ⟨q, _⟩ | ⟨_, hz, i', hi, hge, hg⟩
  · cases q
  cases hi
  have hgr : grows (k + 1) 144 = true := decide_eq_true (by omega)
  constructor
  · have h1 : ¬ (k + 1 ≤ k) := by omega
    have h2 : k * 8 ≤ cs.length := by omega
    simp [appendA, hg, hgr, h2]
  · have hlen : (cs.take (k * 8) ++ xs).length = (k + 1) * 8 := by rw [List.length_append, List.length_take, hxl]; omega
    refine ⟨⟨h.grown.wf0, h.grown.wf.push _, fun j b e => sub_push h.grown.wf _ j b (h.grown.keep j b e), Nat.le_succ_of_le h.grown.le, hlen, .inr ⟨rfl, rfl, σ.next, rfl, h.grown.le, Vg⟩⟩, ?_, by have := h.len; simp; omega, h.elt⟩
    have hsub : Sub (but e σ (some (i, 0))) (but e (σ.push (.cells (cs.take (k * 8) ++ xs) true)) (some (σ.next, 0))) := fun j b e => by
      obtain ⟨h1, h2, h3⟩ := but_some e
      refine but_mk ?_ (sub_push h.grown.wf _ j b h2) h3
      intro q; cases q
      have := h.grown.wf.lt h2; omega
    rw [pdvs_append, pdvs_one, pdvs_take]
    exact DAtL.append_iff.2 ⟨_, xs, rfl, DAtL.sub hsub _ _ (h.dat.take _), DAtL.sub hsub _ _ hd⟩
end Go.Am
namespace Go.Am
open Go.RowKit Go.Proofs Do
set_option maxRecDepth 100000
theorem leaf_ok (σ : AState) (n : Int) (op : Int) (nm : Str) (o1 : Option (Nat × Nat)) (n1 : Nat) (c1 : Option Nat) (z1 : Nat) (o2 : Option (Nat × Nat)) (n2 : Nat) (c2 : Option Nat) (z2 : Nat) : RunF RR Tryz.prog n_law41_leaf [.int .i64 n, .agg [.int .u8 op, .str nm, .slice o1 n1 c1 z1, .slice o2 n2 c2 z2]] σ
    (fun u σ' => u = .agg [.str [], .int .u8 op, .str nm, .slice o1 n1 c1 z1, .slice o2 n2 c2 z2, .int .i64 n, nilA, nilA] ∧ σ' = (σ.push (.cells [.int .u8 op, .str nm, .slice o1 n1 c1 z1, .slice o2 n2 c2 z2] true)).push (.cells [.str [], .int .u8 op, .str nm, .slice o1 n1 c1 z1, .slice o2 n2 c2 z2, .int .i64 n, nilA, nilA] true)) := by
  refine runF_intro hmx rf_law41_leaf ?_
  simp -implicitDefEqProofs (maxDischargeDepth := 15) only [↓reduceIte, Yr, Ys, Yt, Wh, Wj, Wk, Wo, opA, Wv, Wx, Wy, Wz, Va, Za, Zb, List.replicate, Zc, Zd, Ze, Vb, Vc, Vd, Ve, AV.cells, Vg, Vh, Vi, Vn, partA, Zf, Zg, Zh, Zi, Nat.reduceAdd, Nat.reduceLeDiff, Nat.reduceSub, Zj, Zk, Zm, Zn, Zo, Zp, Zs, Zt, fillA, putL, allOne, Zu, Zv, AV.one, Zy, and_self, EndOk, resultA, oneOf, eq_self, i_law41_leaf, c56_0, c56_1]
structure PLive (ts : List AV) (v0 v2 v3 v4 v5 v6 v7 v8 v9 v10 v11 v12 : AV) : Prop where
  len : ts.length = 146
  t0 : ts.getD 0 U = v0
  t2 : ts.getD 2 U = v2
  t3 : ts.getD 3 U = v3
  t4 : ts.getD 4 U = v4
  t5 : ts.getD 5 U = v5
  t6 : ts.getD 6 U = v6
  t7 : ts.getD 7 U = v7
  t8 : ts.getD 8 U = v8
  t9 : ts.getD 9 U = v9
  t10 : ts.getD 10 U = v10
  t11 : ts.getD 11 U = v11
  t12 : ts.getD 12 U = v12
theorem PLive.open {ts : List AV} {v0 v2 v3 v4 v5 v6 v7 v8 v9 v10 v11 v12 : AV} (h : PLive ts v0 v2 v3 v4 v5 v6 v7 v8 v9 v10 v11 v12) : ∃ a : Nat → AV, ts = [v0, a 1, v2, v3, v4, v5, v6, v7, v8, v9, v10, v11, v12, a 13, a 14, a 15, a 16, a 17, a 18, a 19, a 20, a 21, a 22, a 23, a 24, a 25, a 26, a 27, a 28, a 29, a 30, a 31, a 32, a 33, a 34, a 35, a 36, a 37, a 38, a 39, a 40, a 41, a 42, a 43, a 44, a 45, a 46, a 47, a 48, a 49, a 50, a 51, a 52, a 53, a 54, a 55, a 56, a 57, a 58, a 59, a 60, a 61, a 62, a 63, a 64, a 65, a 66, a 67, a 68, a 69, a 70, a 71, a 72, a 73, a 74, a 75, a 76, a 77, a 78, a 79, a 80, a 81, a 82, a 83, a 84, a 85, a 86, a 87, a 88, a 89, a 90, a 91, a 92, a 93, a 94, a 95, a 96, a 97, a 98, a 99, a 100, a 101, a 102, a 103, a 104, a 105, a 106, a 107, a 108, a 109, a 110, a 111, a 112, a 113, a 114, a 115, a 116, a 117, a 118, a 119, a 120, a 121, a 122, a 123, a 124, a 125, a 126, a 127, a 128, a 129, a 130, a 131, a 132, a 133, a 134, a 135, a 136, a 137, a 138, a 139, a 140, a 141, a 142, a 143, a 144, a 145] := by
  have h1 := list_range h.len
  refine ⟨fun i => ts.getD i U, ?_⟩
  rw [← h.t0, ← h.t2, ← h.t3, ← h.t4, ← h.t5, ← h.t6, ← h.t7, ← h.t8, ← h.t9, ← h.t10, ← h.t11, ← h.t12]
  exact h1
theorem grown_dat {σ0 σ : AState} {o : Option (Nat × Nat)} {n : Nat} {c : Option Nat} {z sz : Nat} {cs : List AV} (h : Grown σ0 σ o n c z sz cs) {g : Mem} (hg : ∀ i b, σ0.next ≤ i → o = some (i, 0) → σ.get i = some b → g i = some b) {ds : List DV} (hd : DAtL g ds cs) : DAt g (.sl sz n ds) (.slice o n c z) := by
  rcases h.at' with ⟨rfl, rfl⟩ | ⟨rfl, rfl, i, rfl, hi, hgi⟩
  · rw [DAt]; exact ⟨none, c, z, rfl, .inl rfl, .inl rfl, fun _ => rfl⟩
  · exact dat_sl none (hg i _ hi rfl hgi) h.len hd
theorem Grown.kept {σ0 σ : AState} {o : Option (Nat × Nat)} {n : Nat} {c : Option Nat} {z sz bytes : Nat} {cs xs : List AV} (h : Grown σ0 σ o n c z sz cs) (hsz : 0 < sz) (hx : xs.length = sz) (ho : allOne xs = true) (hg : grows (n + 1) bytes = true) :
    ∃ es, appendA σ.get σ.next sz bytes (.slice o n c z) 1 xs = some (.slice (some (σ.next, 0)) (n + 1) none sz, es) ∧ Grown σ0 (σ.app es) (some (σ.next, 0)) (n + 1) none sz sz (cs ++ xs) ∧ Kept (fun j => o = some (j, 0)) σ (σ.app es) := by
  obtain ⟨i, es, he, hG, hle, hk⟩ := h.append hsz hx ho hg
  have hi : i = σ.next := appendA_new he
  subst hi
  exact ⟨es, he, hG, hle, fun j b hj e => hk j b (fun i hi q => hj (by rw [q]; exact hi)) e, hG.wf⟩
theorem pMarks_get {x k j : Nat} (h : j < (x + k) % 4) : (pMarks x k)[j]? = some ((x * j * 7 + k) % 1000) := by
  unfold pMarks
  rw [List.getElem?_map, List.getElem?_range h]; rfl
theorem pMarks_len (x k : Nat) : (pMarks x k).length = (x + k) % 4 := by simp [pMarks]
theorem pmarks_ok {x k : Nat} (hx : x < 256) (hk : k < 5) {v0 v2 v3 v4 v5 v7 v8 v9 : AV} {σ : AState} (hW : σ.Wf) {ts : List AV} (hL : PLive ts v0 v2 v3 v4 v5 (.int .u8 x) v7 v8 v9 (.int .i64 k) nilA (.int .i64 0)) {Q : Ex → List AV → AState → Prop}
    (hQ : ∀ (ts : List AV) (σ' : AState) (o : Option (Nat × Nat)) (c : Option Nat) (z : Nat), PLive ts v0 v2 v3 v4 v5 (.int .u8 x) v7 v8 v9 (.int .i64 k) (.slice o (pMarks x k).length c z) (.int .i64 (pMarks x k).length) → Grow σ σ' → DAt (newer σ σ') (mdv (pMarks x k)) (.slice o (pMarks x k).length c z) → Q (.exit 5) ts σ') :
    wpC RR Tryz.prog c67_11 ts σ Q := by
  have hm4 : ((x : Int) + (k : Int)).tmod 4 = (((x + k) % 4 : Nat) : Int) := by rw [show (x : Int) + (k : Int) = ((x + k : Nat) : Int) by omega]; exact tmodN _ 4
  have w1 : wrapF .i64 (x : Int) = (x : Int) := wrap_i64 (by omega)
  have w2 : wrapF .i64 ((x : Int) + (k : Int)) = (x : Int) + (k : Int) := wrap_i64 (by omega)
  have z4 : ((4 : Int) = 0) = False := by simp
  show wpC RR Tryz.prog (.loop c67_10) _ _ _
  refine wp_loopK (fun ts σ' m => ∃ (j : Nat) (o : Option (Nat × Nat)) (c : Option Nat) (z : Nat), Grown σ σ' o j c z 1 (((pMarks x k).take j).map fun (n : Nat) => AV.int .i64 (n : Int)) ∧ j + m = (x + k) % 4 ∧ PLive ts v0 v2 v3 v4 v5 (.int .u8 x) v7 v8 v9 (.int .i64 k) (.slice o j c z) (.int .i64 j)) ((x + k) % 4)
    ⟨0, none, some 0, 0, Grown.nil hW hW (fun _ _ e => e) (Nat.le_refl _) _ _ _, by omega, hL⟩ ?_
  rintro m ts σ' ⟨j, o, c, z, hG, hjm, hL⟩
  obtain ⟨a, rfl⟩ := hL.open
  have hm := Nat.mod_lt (x + k) (show 0 < 4 by omega)
  by_cases hlt : j < (x + k) % 4
  · have d1 : decide ((j : Int) < (((x + k) % 4 : Nat) : Int)) = true := decide_eq_true (by omega)
    have hxj : x * j ≤ 255 * 3 := Nat.mul_le_mul (by omega) (by omega)
    have w3 : wrapF .i64 ((x : Int) * (j : Int)) = ((x * j : Nat) : Int) := by rw [show (x : Int) * (j : Int) = ((x * j : Nat) : Int) by simp]; exact wrap_i64 (by omega)
    have w4 : wrapF .i64 (((x * j : Nat) : Int) * 7) = ((x * j * 7 : Nat) : Int) := by rw [show ((x * j : Nat) : Int) * 7 = ((x * j * 7 : Nat) : Int) by simp]; exact wrap_i64 (by omega)
    have w5 : wrapF .i64 (((x * j * 7 : Nat) : Int) + (k : Int)) = ((x * j * 7 + k : Nat) : Int) := by rw [wrap_i64 (by omega)]; omega
    have m1000 : ((x * j * 7 + k : Nat) : Int).tmod 1000 = (((x * j * 7 + k) % 1000 : Nat) : Int) := tmodN _ 1000
    have z1000 : ((1000 : Int) = 0) = False := by simp
    have w6 : wrapF .i64 ((j : Int) + 1) = ((j + 1 : Nat) : Int) := by rw [wrap_i64 (by omega)]; rfl
    have hG2 := hG.push (.cells [.int .i64 (((x * j * 7 + k) % 1000 : Nat) : Int)] true)
    obtain ⟨es, he, hG3, _⟩ := hG2.kept (bytes := 8) (xs := [.int .i64 (((x * j * 7 + k) % 1000 : Nat) : Int)]) (by omega) rfl rfl (decide_eq_true (by omega))
    simp -implicitDefEqProofs (maxDischargeDepth := 15) only [↓reduceIte, Yr, Ys, Yt, Yz, Wg, Wj, Wk, Wl, Wm, Wo, Wr, opA, Wv, Ww, Wx, Wy, Wz, Za, Zb, Zd, Ze, Vb, Vc, Vd, AV.cells, Vg, Zf, Zg, Zh, Zi, Zj, Zk, Zm, Zn, Zo, Zp, Zs, Zt, binA, fillA, and_self, lenA, firstA, eq_self, c67_6, c67_7, c67_8, c67_9, c67_10, hm4, w1, w2, z4, d1, w3, w4, w5, m1000, z1000, he, w6, lk_n]
    refine ⟨m - 1, by omega, j + 1, _, _, _, ?_, by omega, rfl, rfl, rfl, rfl, rfl, rfl, rfl, rfl, rfl, rfl, rfl, rfl, rfl⟩
    have : ((pMarks x k).take (j + 1)).map (fun (n : Nat) => AV.int .i64 (n : Int)) = ((pMarks x k).take j).map (fun (n : Nat) => AV.int .i64 (n : Int)) ++ [.int .i64 (((x * j * 7 + k) % 1000 : Nat) : Int)] := by
      rw [List.take_add_one, pMarks_get hlt]; simp
    rw [this]
    exact hG3
  · have d1 : decide ((j : Int) < (((x + k) % 4 : Nat) : Int)) = false := decide_eq_false (by omega)
    have hj : j = (pMarks x k).length := by rw [pMarks_len]; omega
    simp -implicitDefEqProofs (maxDischargeDepth := 15) only [↓reduceIte, Yr, Ys, Yt, Wa, Wi, Wj, Wk, Wl, Wo, Wp, opA, Wv, Ww, Wx, Wy, Wz, Za, Zb, Vb, binA, eq_self, c67_6, c67_7, c67_8, c67_9, c67_10, hm4, w1, w2, z4, d1, lk_e]
    rw [hj, List.take_length] at hG
    refine hQ _ σ' o c z ⟨rfl, rfl, rfl, rfl, rfl, rfl, rfl, rfl, rfl, rfl, rfl, by rw [hj]; rfl, by rw [hj]; rfl⟩ ⟨hG.le, hG.keep, hG.wf⟩ ?_
    exact grown_dat hG (fun i b hi _ e => newer_mk hi e) (ints_dat.2 rfl)
end Go.Am
namespace Go.Am
open Go.RowKit Go.Proofs Do
set_option maxRecDepth 100000
theorem Grown.keptBy {Own : Nat → Prop} {σ0 σ σ' : AState} {o : Option (Nat × Nat)} {n : Nat} {c : Option Nat} {z sz : Nat} {cs : List AV} (h : Grown σ0 σ o n c z sz cs) (k : Kept Own σ σ') (h1 : ∀ i, o = some (i, 0) → ¬ Own i) (h0 : ∀ j, Own j → σ0.next ≤ j) : Grown σ0 σ' o n c z sz cs :=
  ⟨h.wf0, k.wf, fun i b e => k.keep i b (fun q => by have := h.wf0.lt e; have := h0 i q; omega) (h.keep i b e), Nat.le_trans h.le k.le, h.len, h.at'.imp_right fun ⟨a, b, i, c, d, e⟩ => ⟨a, b, i, c, d, k.keep i _ (h1 i c) e⟩⟩
theorem Kept.set {Own : Nat → Prop} {σ σ' : AState} (h : Kept Own σ σ') {j : Nat} (hj : Own j) (hl : j < σ'.next) (b : ABlk) : Kept Own σ (σ'.set j b) :=
  ⟨h.le, fun i x n e => by rw [Vl (by rintro rfl; exact n hj)]; exact h.keep i x n e, h.wf.set hl b⟩
theorem Kept.mono {Own Own' : Nat → Prop} {σ σ' : AState} (h : Kept Own σ σ') (k : ∀ j, Own j → Own' j) : Kept Own' σ σ' := ⟨h.le, fun i b n e => h.keep i b (fun q => n (k i q)) e, h.wf⟩
theorem Kept.ofGrow {Own : Nat → Prop} {σ σ' : AState} (h : Grow σ σ') : Kept Own σ σ' := ⟨h.le, fun i b _ e => h.sub i b e, h.wf⟩
theorem Grown.at_lt {σ0 σ : AState} {o : Option (Nat × Nat)} {n : Nat} {c : Option Nat} {z sz : Nat} {cs : List AV} (h : Grown σ0 σ o n c z sz cs) {i : Nat} (hi : o = some (i, 0)) : σ0.next ≤ i ∧ i < σ.next := by
  rcases h.at' with ⟨q, _⟩ | ⟨_, _, i', q, hq, hg⟩
  · rw [q] at hi; cases hi
  · rw [q] at hi; cases hi; exact ⟨hq, h.wf.lt hg⟩
def inner (σb σ : AState) (ip : Nat) (so mo : Option (Nat × Nat)) : Mem := fun j => if j < σb.next ∨ j = ip ∨ so = some (j, 0) ∨ mo = some (j, 0) then none else σ.get j
theorem inner_some {σb σ : AState} {ip : Nat} {so mo : Option (Nat × Nat)} {j : Nat} {b : ABlk} (h : inner σb σ ip so mo j = some b) : σb.next ≤ j ∧ j ≠ ip ∧ so ≠ some (j, 0) ∧ mo ≠ some (j, 0) ∧ σ.get j = some b := by
  unfold inner at h
  split at h
  · cases h
  · rename_i q
    simp only [not_or] at q
    exact ⟨by omega, q.2.1, q.2.2.1, q.2.2.2, h⟩
theorem inner_mk {σb σ : AState} {ip : Nat} {so mo : Option (Nat × Nat)} {j : Nat} {b : ABlk} (h1 : σb.next ≤ j) (h2 : j ≠ ip) (h3 : so ≠ some (j, 0)) (h4 : mo ≠ some (j, 0)) (h : σ.get j = some b) : inner σb σ ip so mo j = some b := by
  unfold inner
  rw [if_neg (by simp only [not_or]; exact ⟨by omega, h2, h3, h4⟩)]; exact h
structure PIn (σb σ : AState) (ip : Nat) (r : Str) (fs : List AV) (so : Option (Nat × Nat)) (k : Nat) (sc : Option Nat) (sz : Nat) (cs1 : List AV) (mo : Option (Nat × Nat)) (mc : Option Nat) (mz : Nat) (cs2 : List AV) (ms : List (List Nat)) : Prop where
  grow : Grow σb σ
  ipl : σb.next ≤ ip
  at' : σ.get ip = some (.cells (.str r :: (fs ++ [.int .i64 0, .slice so k sc sz, .slice mo k mc mz])) true)
  subs : Grown σb σ so k sc sz 8 cs1
  marks : Grown σb σ mo k mc mz 1 cs2
  mdat : DAtL (inner σb σ ip so mo) (ms.map mdv) cs2
  n1 : so ≠ some (ip, 0)
  n2 : mo ≠ some (ip, 0)
  n3 : ∀ i, so = some (i, 0) → mo ≠ some (i, 0)
theorem pdvs_slice (s : List Pf) {a k : Nat} {p : Pf} (h : s[a + k]? = some p) : Pf.dvs ((s.drop a).take (k + 1)) = Pf.dvs ((s.drop a).take k) ++ p.dv := by
  rw [List.take_add_one, List.getElem?_drop, h]
  simp [pdvs_append, pdvs_one]
set_option maxHeartbeats 4000000 in
theorem psub_ok {x many : Nat} (hx : x < 256) (hm5 : many < 5) {e : Nat} {σ1 σb σ : AState} {so : Option (Nat × Nat)} {sn : Nat} {sc : Option Nat} {sz : Nat} {s : List Pf} {cs : List AV} (hS : Stq e σ1 σb so sn sc sz s cs) (hsn : sn ≤ 30) (hle : many ≤ sn)
    {ip : Nat} {r : Str} {fo : Nat} {fn : Str} {o1 : Option (Nat × Nat)} {n1 : Nat} {c1 : Option Nat} {z1 : Nat} {o2 : Option (Nat × Nat)} {n2 : Nat} {c2 : Option Nat} {z2 : Nat}
    (hP : PIn σb σ ip r [.int .u8 fo, .str fn, .slice o1 n1 c1 z1, .slice o2 n2 c2 z2] none 0 (some 0) 0 [] none (some 0) 0 [] [])
    {v0 v2 v4 v7 v11 v12 : AV} {ts : List AV} (hL : PLive ts v0 v2 (.slice so sn sc sz) v4 (.int .i64 sn) (.int .u8 x) v7 (.int .i64 many) (.ptr (some (ip, 0))) (.int .i64 0) v11 v12) {Q : Ex → List AV → AState → Prop}
    (hQ : ∀ (ts : List AV) (σ' : AState) (so' : Option (Nat × Nat)) (sc' : Option Nat) (sz' : Nat) (cs1 : List AV) (mo : Option (Nat × Nat)) (mc : Option Nat) (mz : Nat) (cs2 : List AV) (v10 v11 v12 : AV), PLive ts v0 v2 (.slice so sn sc sz) v4 (.int .i64 sn) (.int .u8 x) v7 (.int .i64 many) (.ptr (some (ip, 0))) v10 v11 v12 →
      PIn σb σ' ip r [.int .u8 fo, .str fn, .slice o1 n1 c1 z1, .slice o2 n2 c2 z2] so' many sc' sz' cs1 mo mc mz cs2 ((List.range many).map (pMarks x)) → DAtL (but e σb so) (Pf.dvs (s.drop (sn - many))) cs1 → Q (.exit 3) ts σ') :
    wpC RR Tryz.prog c67_20 ts σ Q := by
  show wpC RR Tryz.prog (.loop c67_19) _ _ _
  refine wp_loopK (fun ts σ' m => ∃ (k : Nat) (so' : Option (Nat × Nat)) (sc' : Option Nat) (sz' : Nat) (cs1 : List AV) (mo : Option (Nat × Nat)) (mc : Option Nat) (mz : Nat) (cs2 : List AV) (v11 v12 : AV), k + m = many ∧ PLive ts v0 v2 (.slice so sn sc sz) v4 (.int .i64 sn) (.int .u8 x) v7 (.int .i64 many) (.ptr (some (ip, 0))) (.int .i64 k) v11 v12 ∧
      PIn σb σ' ip r [.int .u8 fo, .str fn, .slice o1 n1 c1 z1, .slice o2 n2 c2 z2] so' k sc' sz' cs1 mo mc mz cs2 ((List.range k).map (pMarks x)) ∧ DAtL (but e σb so) (Pf.dvs ((s.drop (sn - many)).take k)) cs1) many
    ⟨0, none, some 0, 0, [], none, some 0, 0, [], v11, v12, by omega, hL, hP, by simp [Pf.dvs, DAtL]⟩ ?_
  rintro m ts σ' ⟨k, so', sc', sz', cs1, mo, mc, mz, cs2, v11, v12, hkm, hL, hI, hD⟩
  obtain ⟨a, rfl⟩ := hL.open
  have hlen := hS.len
  by_cases hlt : k < many
  · have d1 : decide ((k : Int) < (many : Int)) = true := decide_eq_true (by omega)
    obtain ⟨p, hp⟩ : ∃ p, s[sn - many + k]? = some p := ⟨s[sn - many + k]'(by omega), List.getElem?_eq_getElem _⟩
    obtain ⟨rfl, is, xs, rfl, hgs, hl8, hxs, hdp⟩ := hS.elem hp
    have hgs' := hI.grow.sub _ _ hgs
    have hisl := hS.grown.wf.lt hgs
    have hipl := hI.grow.wf.lt hI.at'
    have hgi := hI.at'
    obtain ⟨pr, pf, pn, psl, pm, ep⟩ := proof_is p
    obtain ⟨fo', fn', fa', fl', ef⟩ := form_is pf
    subst ef
    have hdp0 := hdp
    rw [ep] at hdp
    obtain ⟨p1, q1, y1, p2, q2, y2, p3, q3, y3, p4, q4, y4, rfl, _, _, _⟩ := Pf.cells hdp
    have w1 : wrapF .i64 ((sn : Int) - (many : Int)) = ((sn - many : Nat) : Int) := by rw [wrap_i64 (by omega)]; omega
    have w2 : wrapF .i64 (((sn - many : Nat) : Int) + (k : Int)) = ((sn - many + k : Nat) : Int) := by rw [wrap_i64 (by omega)]; omega
    have e1 : (0 : Int) ≤ ((sn - many + k : Nat) : Int) ∧ ((sn - many + k : Nat) : Int) < (sn : Int) := by omega
    have hG2 := hI.subs.push (.cells [.str pr, .int .u8 fo', .str fn', .slice p1 fa'.length q1 y1, .slice p2 fl'.length q2 y2, .int .i64 pn, .slice p3 psl.length q3 y3, .slice p4 pm.length q4 y4] true)
    obtain ⟨es, he, hG3, hK3⟩ := hG2.kept (bytes := 144) (xs := [.str pr, .int .u8 fo', .str fn', .slice p1 fa'.length q1 y1, .slice p2 fl'.length q2 y2, .int .i64 pn, .slice p3 psl.length q3 y3, .slice p4 pm.length q4 y4]) (by omega) rfl rfl (decide_eq_true (by omega))
    have hgi2 : (σ'.push (.cells [.str pr, .int .u8 fo', .str fn', .slice p1 fa'.length q1 y1, .slice p2 fl'.length q2 y2, .int .i64 pn, .slice p3 psl.length q3 y3, .slice p4 pm.length q4 y4] true)).get ip = some (.cells (.str r :: ([.int .u8 fo, .str fn, .slice o1 n1 c1 z1, .slice o2 n2 c2 z2] ++ [.int .i64 0, .slice so' k sc' sz', .slice mo k mc mz])) true) := sub_push hI.grow.wf _ _ _ hI.at'
    have hgi3 := hK3.keep ip _ (fun q => hI.n1 q) hgi2
    have hip3 := hK3.wf.lt hgi3
    simp -implicitDefEqProofs (maxDischargeDepth := 15) only [↓reduceIte, Yr, Ys, Yt, Yz, Wg, Wj, Wk, Wl, Wm, Wo, opA, Wv, Ww, Wx, Wy, Wz, Va, Za, Zb, Zc, Zd, Ze, Vb, Vc, Vd, Ve, AV.cells, Vg, partA, Zf, Zg, Zh, Zi, Nat.reduceAdd, Nat.reduceLeDiff, Zj, Zk, Zm, Zn, Zo, Zp, Zq, Zr, Zs, Zt, binA, fillA, putL, allOne, Zu, Zv, AV.one, Zy, and_self, lenA, firstA, Yf, eq_self, c67_5, c67_12, c67_13, c67_14, c67_15, c67_16, c67_17, c67_18, c67_19, d1, w1, w2, e1, hgi, hgs', hl8, hxs, he, hgi3]
    have hW' := hI.grow.wf
    have hnx : σ'.next < (σ'.push (.cells [.str pr, .int .u8 fo', .str fn', .slice p1 fa'.length q1 y1, .slice p2 fl'.length q2 y2, .int .i64 pn, .slice p3 psl.length q3 y3, .slice p4 pm.length q4 y4] true)).next := Nat.lt_succ_self _
    have hK2 : Kept (fun _ => False) σ' (σ'.push (.cells [.str pr, .int .u8 fo', .str fn', .slice p1 fa'.length q1 y1, .slice p2 fl'.length q2 y2, .int .i64 pn, .slice p3 psl.length q3 y3, .slice p4 pm.length q4 y4] true)) := (Kept.refl hW').push _
    generalize (σ'.push (.cells [.str pr, .int .u8 fo', .str fn', .slice p1 fa'.length q1 y1, .slice p2 fl'.length q2 y2, .int .i64 pn, .slice p3 psl.length q3 y3, .slice p4 pm.length q4 y4] true)) = σ2 at *
    have hM3 := hI.marks.keptBy ((hK2.mono (Own' := fun j => so' = some (j, 0)) (fun _ q => q.elim)).trans hK3) (fun i hi q => hI.n3 i q hi) (fun j hj => (hI.subs.at_lt hj).1)
    have hle2 := hK2.le
    have hle3 := hK3.le
    have hs3l := (hG3.at_lt rfl).2
    generalize σ2.app es = σ3 at *
    have hipn : ip ≠ σ2.next := by omega
    have hK4 : Kept (fun j => j = ip) σ3 (σ3.set ip (.cells [.str r, .int .u8 fo, .str fn, .slice o1 n1 c1 z1, .slice o2 n2 c2 z2, .int .i64 0, .slice (some (σ2.next, 0)) (k + 1) none 8, .slice mo k mc mz] true)) := (Kept.refl hK3.wf).set (Own := fun j => j = ip) rfl hip3 _
    have hG4 := hG3.keptBy hK4 (fun i hi q => by cases hi; exact hipn q.symm) (fun j hj => by rw [hj]; exact hI.ipl)
    have hM4 := hM3.keptBy hK4 (fun i hi q => by subst q; exact hI.n2 hi) (fun j hj => by rw [hj]; exact hI.ipl)
    have hgi4 : (σ3.set ip (.cells [.str r, .int .u8 fo, .str fn, .slice o1 n1 c1 z1, .slice o2 n2 c2 z2, .int .i64 0, .slice (some (σ2.next, 0)) (k + 1) none 8, .slice mo k mc mz] true)).get ip = some (.cells [.str r, .int .u8 fo, .str fn, .slice o1 n1 c1 z1, .slice o2 n2 c2 z2, .int .i64 0, .slice (some (σ2.next, 0)) (k + 1) none 8, .slice mo k mc mz] true) := Vk
    have hs4l : σ2.next < (σ3.set ip (.cells [.str r, .int .u8 fo, .str fn, .slice o1 n1 c1 z1, .slice o2 n2 c2 z2, .int .i64 0, .slice (some (σ2.next, 0)) (k + 1) none 8, .slice mo k mc mz] true)).next := hs3l
    have hi4l : ip < (σ3.set ip (.cells [.str r, .int .u8 fo, .str fn, .slice o1 n1 c1 z1, .slice o2 n2 c2 z2, .int .i64 0, .slice (some (σ2.next, 0)) (k + 1) none 8, .slice mo k mc mz] true)).next := hip3
    generalize (σ3.set ip (.cells [.str r, .int .u8 fo, .str fn, .slice o1 n1 c1 z1, .slice o2 n2 c2 z2, .int .i64 0, .slice (some (σ2.next, 0)) (k + 1) none 8, .slice mo k mc mz] true)) = σ4 at *
    refine pmarks_ok (x := x) (k := k) hx (by omega) hK4.wf ⟨rfl, rfl, rfl, rfl, rfl, rfl, rfl, rfl, rfl, rfl, rfl, rfl, rfl⟩ ?_
    intro ts5 σ5 o5 c5 z5 hL5 hG45 hD5
    obtain ⟨a, rfl⟩ := hL5.open
    have hgi5 := hG45.sub _ _ hgi4
    have hi5l := hG45.wf.lt hgi5
    have hM5 := hM4.grow hG45
    have hM6 := hM5.push (.cells [.slice o5 (pMarks x k).length c5 z5] true)
    obtain ⟨es7, he7, hM7, hK7⟩ := hM6.kept (bytes := 24) (xs := [.slice o5 (pMarks x k).length c5 z5]) (by omega) rfl rfl (decide_eq_true (by omega))
    have hgi6 := sub_push hG45.wf (.cells [.slice o5 (pMarks x k).length c5 z5] true) _ _ hgi5
    have hgi7 := hK7.keep ip _ (fun q => hI.n2 q) hgi6
    have w6 : wrapF .i64 ((k : Int) + 1) = ((k + 1 : Nat) : Int) := by rw [wrap_i64 (by omega)]; rfl
    simp -implicitDefEqProofs (maxDischargeDepth := 15) only [↓reduceIte, Yr, Ys, Yt, Wj, Wo, Wr, Ws, opA, Wv, Ww, Wx, Wy, Wz, Va, Za, Zb, Zc, Zd, Ze, Vb, Vc, Vd, Ve, AV.cells, Vg, partA, Zf, Zg, Zh, Zi, Nat.reduceAdd, Zj, Zk, Zm, Zn, Zo, Zp, Zq, Zr, Zs, Zt, binA, fillA, putL, allOne, Zu, Zv, AV.one, Zy, and_self, lenA, firstA, eq_self, hgi5, he7, hgi7, w6, lk_n]
    have hmlt : ∀ i, mo = some (i, 0) → i < σ'.next := fun i hi => (hI.marks.at_lt hi).2
    have hl45 := hG45.le
    have hl34 := hK4.le
    have hbl := hI.grow.le
    have hi7l := hK7.wf.lt hgi7
    have hK8 : Kept (fun j => j = ip) ((σ5.push (.cells [.slice o5 (pMarks x k).length c5 z5] true)).app es7) (((σ5.push (.cells [.slice o5 (pMarks x k).length c5 z5] true)).app es7).set ip (.cells [.str r, .int .u8 fo, .str fn, .slice o1 n1 c1 z1, .slice o2 n2 c2 z2, .int .i64 0, .slice (some (σ2.next, 0)) (k + 1) none 8, .slice (some ((σ5.push (.cells [.slice o5 (pMarks x k).length c5 z5] true)).next, 0)) (k + 1) none 1] true)) := (Kept.refl hK7.wf).set (Own := fun j => j = ip) rfl hi7l _
    have hK58 : Kept (fun j => j = ip ∨ mo = some (j, 0)) σ5 _ := (((Kept.refl hG45.wf).push _).trans (hK7.mono fun j q => .inr q)).trans (hK8.mono fun j q => .inl q)
    have hK48 : Kept (fun j => j = ip ∨ mo = some (j, 0)) σ4 _ := (Kept.ofGrow hG45).trans hK58
    have hK' : Kept (fun j => j = ip ∨ so' = some (j, 0) ∨ mo = some (j, 0)) σ' _ := (((hK2.mono fun j q => q.elim).trans (hK3.mono fun j q => .inr (.inl q))).trans (hK4.mono fun j q => .inl q)).trans (hK48.mono fun j q => q.imp id .inr)
    have hsub8 := hG4.keptBy hK48 (fun i hi q => by
      cases hi
      rcases q with q | q
      · exact hipn q.symm
      · have := hmlt _ q; omega) (fun j hj => by
      rcases hj with hj | hj
      · rw [hj]; exact hI.ipl
      · exact (hI.marks.at_lt hj).1)
    have hmar8 := hM7.keptBy hK8 (fun i hi q => by cases hi; have : σ5.next < σ5.next := by rw [AState.push_next] at *; omega
                                                   omega) (fun j hj => by rw [hj]; exact hI.ipl)
    refine ⟨m - 1, by omega, k + 1, _, _, _, _, _, _, _, _, _, _, by omega, ⟨rfl, rfl, rfl, rfl, rfl, rfl, rfl, rfl, rfl, rfl, rfl, rfl, rfl⟩, ⟨⟨Nat.le_trans hI.grow.le hK'.le, fun i b e => hK'.keep i b (fun q => ?_) (hI.grow.sub i b e), hK8.wf⟩, hI.ipl, Vk, hsub8, hmar8, ?_, ?_, ?_, ?_⟩, ?_⟩
    · have h1 := hS.grown.wf.lt e
      have h2 := hI.ipl
      rcases q with q | q | q
      · omega
      · have := (hI.subs.at_lt q).1; omega
      · have := (hI.marks.at_lt q).1; omega
    · rw [List.range_succ, List.map_append, List.map_append]
      refine DAtL.append_iff.2 ⟨cs2, _, rfl, DAtL.sub (fun j b e => ?_) _ _ hI.mdat, DAtL.cons_iff.2 ⟨_, _, rfl, DAt.sub (fun j b e => ?_) _ _ hD5, DAtL.nil_iff.2 rfl⟩⟩
      · obtain ⟨h1, h2, h3, h4, h5⟩ := inner_some e
        have h6 := hW'.lt h5
        refine inner_mk h1 h2 (fun q => by cases q; omega) (fun q => by cases q; simp only [AState.push_next] at h6; omega) (hK'.keep j b (fun q => ?_) h5)
        rcases q with q | q | q
        · exact h2 q
        · exact h3 q
        · exact h4 q
      · obtain ⟨h1, h5⟩ := newer_some e
        have h6 := hG45.wf.lt h5
        refine inner_mk (by omega) (by omega) (fun q => by cases q; omega) (fun q => by cases q; simp only [AState.push_next] at h6; omega) (hK58.keep j b (fun q => ?_) h5)
        rcases q with q | q
        · omega
        · have := hmlt _ q; omega
    · intro q; cases q; exact hipn rfl
    · intro q; cases q; simp only [AState.push_next] at hi5l; omega
    · intro i hi q
      simp only [Option.some.injEq, Prod.mk.injEq, and_true, AState.push_next] at hi q
      omega
    · rw [pdvs_slice s hp]
      exact DAtL.append_iff.2 ⟨cs1, _, rfl, hD, by rw [ep]; rw [ep] at hdp0; exact hdp0⟩
  · have d1 : decide ((k : Int) < (many : Int)) = false := decide_eq_false (by omega)
    have hkk : k = many := by omega
    subst hkk
    have htk : (s.drop (sn - k)).take k = s.drop (sn - k) := List.take_of_length_le (by simp; omega)
    rw [htk] at hD
    simp -implicitDefEqProofs (maxDischargeDepth := 15) only [↓reduceIte, Yr, Ys, Yt, Wa, Wi, Wj, Wk, Wl, Wo, Wp, opA, Wv, Wx, Wy, Wz, Za, Zb, Vb, binA, eq_self, c67_5, c67_12, c67_13, c67_14, c67_15, c67_16, c67_17, c67_18, c67_19, d1, lk_e]
    exact hQ _ σ' _ _ _ _ _ _ _ _ _ _ _ ⟨rfl, rfl, rfl, rfl, rfl, rfl, rfl, rfl, rfl, rfl, rfl, rfl, rfl⟩ hI hD
end Go.Am
namespace Go.Am
open Go.RowKit Go.Proofs Do
set_option maxRecDepth 100000
theorem Bys.cut {g : Mem} {o : Option (Nat × Nat)} {n z : Nat} {l : List Nat} (h : Bys g o n z l) {lo hi : Nat} (h1 : lo ≤ hi) (h2 : hi ≤ n) : Bys g (o.map fun p => (p.1, p.2 + lo)) (hi - lo) z ((l.take hi).drop lo) := by
  rcases h with ⟨rfl, rfl, rfl⟩ | ⟨hl, rfl, i, off, cs, w, rfl, hg, hle, hcs⟩
  · exact .inl ⟨rfl, by omega, by simp⟩
  · refine .inr ⟨by simp; omega, rfl, i, off + lo, cs, w, rfl, hg, by omega, ?_⟩
    rw [List.map_drop, List.map_take, ← hcs, List.take_take, Nat.min_eq_left h2, List.drop_take, List.drop_drop]
theorem law_join_ok (σ : AState) (op : Int) (o : Option (Nat × Nat)) (n : Nat) (c : Option Nat) (z : Nat) : RunF RR Tryz.prog n_law41_join [.int .u8 op, .slice o n c z] σ (fun u σ' => u = .agg [.int .u8 op, .str [], nilA, .slice o n c z] ∧ σ' = σ.push (.cells [.int .u8 op, .str [], nilA, .slice o n c z] true)) := by
  refine runF_intro hmx rf_law41_join ?_
  simp -implicitDefEqProofs (maxDischargeDepth := 15) only [↓reduceIte, Yr, Ys, Yt, Wh, Wj, Wk, Wo, opA, Wv, Wx, Wy, Wz, Va, Za, Zb, List.replicate, Zc, Zd, Ze, Vb, Vc, Vd, Ve, AV.cells, Vg, Vn, partA, Zf, Zg, Zh, Zi, Nat.reduceAdd, Nat.reduceLeDiff, Nat.reduceSub, Zj, Zk, Zm, Zn, Zo, Zp, Zs, Zt, fillA, putL, allOne, Zu, Zv, AV.one, Zy, and_self, EndOk, resultA, oneOf, eq_self, i_law41_join, c15_0, c15_1]
abbrev zeroP : List AV := [.str [], .int .u8 0, .str [], nilA, nilA, .int .i64 0, nilA, nilA]
def PNext (l : List Nat) (e : Nat) (σ1 : AState) (v0 v2 : AV) (i : Nat) (s' : List Pf) (Q : Ex → List AV → AState → Prop) : Prop :=
  ∀ (ts : List AV) (σ'' : AState) (so : Option (Nat × Nat)) (sn : Nat) (sc : Option Nat) (sz : Nat) (cs : List AV) (v5 v6 v7 v8 v9 v10 v11 v12 : AV), PLive ts v0 v2 (.slice so sn sc sz) (.int .i64 i) v5 v6 v7 v8 v9 v10 v11 v12 → Stq e σ1 σ'' so sn sc sz s' cs → sn ≤ i + 1 → Q .normal ts σ''
theorem Stq.keep_lt {e : Nat} {σ1 σ : AState} {so : Option (Nat × Nat)} {sn : Nat} {sc : Option Nat} {sz : Nat} {s : List Pf} {cs : List AV} (h : Stq e σ1 σ so sn sc sz s cs) {i : Nat} (hi : so = some (i, 0)) : σ1.next ≤ i ∧ i < σ.next := h.grown.at_lt hi
set_option maxHeartbeats 4000000 in
theorem pswitch_ok {l : List Nat} {e : Nat} {σ1 σ : AState} {v0 v2 : AV} {i x : Nat} (hx : x < 256) (hi30 : i < 30) {so : Option (Nat × Nat)} {sn : Nat} {sc : Option Nat} {sz : Nat} {s : List Pf} {cs : List AV} (hS : Stq e σ1 σ so sn sc sz s cs) (hsn : sn ≤ i)
    {fp : Nat} {fo : Nat} {fn : Str} {fa : List T} {fl : List F} {o1 : Option (Nat × Nat)} {c1 : Option Nat} {z1 : Nat} {o2 : Option (Nat × Nat)} {c2 : Option Nat} {z2 : Nat}
    (hfp : σ.get fp = some (.cells [.int .u8 fo, .str fn, .slice o1 fa.length c1 z1, .slice o2 fl.length c2 z2] true)) (hf : pForm l i x = .mk fo fn fa fl)
    (hfd : DAtL (but e σ so) (F.mk fo fn fa fl).dv [.int .u8 fo, .str fn, .slice o1 fa.length c1 z1, .slice o2 fl.length c2 z2])
    {v9 v10 v11 v12 : AV} {ts : List AV} (hL : PLive ts v0 v2 (.slice so sn sc sz) (.int .i64 i) (.int .i64 sn) (.int .u8 x) (.ptr (some (fp, 0))) (.int .i64 (x / 4 % 5 : Nat)) v9 v10 v11 v12) {Q : Ex → List AV → AState → Prop}
    (hQ : PNext l e σ1 v0 v2 i (pStep l s i x) Q) : wpC RR Tryz.prog c67_31 ts σ Q := by
  obtain ⟨a, rfl⟩ := hL.open
  have hlen := hS.len
  have hfl := hS.grown.wf.lt hfp
  have m4 : (x : Int).tmod 4 = ((x % 4 : Nat) : Int) := tmodN x 4
  have z4 : ((4 : Int) = 0) = False := by simp
  by_cases h0 : x % 4 = 0
  · have b0 : (((x % 4 : Nat) : Int) == 0) = true := by simp [h0]
    have w1 : wrapF .i64 (x : Int) = (x : Int) := wrap_i64 (by omega)
    have w2 : wrapF .i64 ((x : Int) * 3) = ((x * 3 : Nat) : Int) := by rw [wrap_i64 (by omega)]; omega
    have w3 : wrapF .i64 (1 + ((x * 3 : Nat) : Int)) = ((1 + x * 3 : Nat) : Int) := by rw [wrap_i64 (by omega)]; omega
    simp -implicitDefEqProofs (maxDischargeDepth := 15) only [↓reduceIte, Yr, Ys, Yt, Yz, Wb, Wj, Wk, Wl, Wm, Wo, opA, Wv, Ww, Wx, Wy, Wz, Za, Zb, Vb, partA, Zf, Zg, Zh, Zi, Nat.reduceAdd, Zj, Zk, Zm, Zo, Zt, binA, eq_self, c67_2, c67_3, c67_4, c67_5, c67_6, c67_7, c67_8, c67_9, c67_10, c67_11, c67_12, c67_13, c67_14, c67_15, c67_16, c67_17, c67_18, c67_19, c67_20, c67_21, c67_22, c67_23, c67_24, c67_25, c67_26, c67_27, c67_28, c67_29, c67_30, c67_31, m4, z4, b0, w1, w2, w3, hfp]
    refine RunV.to (leaf_ok _ _ _ _ _ _ _ _ _ _ _ _) ?_
    have hS3 := ((hS.push (.cells [.int .u8 fo, .str fn, .slice o1 fa.length c1 z1, .slice o2 fl.length c2 z2] true)).push (.cells [.str [], .int .u8 fo, .str fn, .slice o1 fa.length c1 z1, .slice o2 fl.length c2 z2, .int .i64 ((1 + x * 3 : Nat) : Int), nilA, nilA] true)).push (.cells [.str [], .int .u8 fo, .str fn, .slice o1 fa.length c1 z1, .slice o2 fl.length c2 z2, .int .i64 ((1 + x * 3 : Nat) : Int), nilA, nilA] true)
    have hfd3 : DAtL (but e _ so) (F.mk fo fn fa fl).dv _ := DAtL.sub (but_sub ((sub_push hS.grown.wf (.cells [.int .u8 fo, .str fn, .slice o1 fa.length c1 z1, .slice o2 fl.length c2 z2] true)).trans ((sub_push (hS.grown.wf.push _) (.cells [.str [], .int .u8 fo, .str fn, .slice o1 fa.length c1 z1, .slice o2 fl.length c2 z2, .int .i64 ((1 + x * 3 : Nat) : Int), nilA, nilA] true)).trans (sub_push ((hS.grown.wf.push _).push _) (.cells [.str [], .int .u8 fo, .str fn, .slice o1 fa.length c1 z1, .slice o2 fl.length c2 z2, .int .i64 ((1 + x * 3 : Nat) : Int), nilA, nilA] true))))) _ _ hfd
    obtain ⟨i', es, he, hS4⟩ := hS3.append (f := .mk [] (.mk fo fn fa fl) (1 + x * 3) [] []) (xs := [.str [], .int .u8 fo, .str fn, .slice o1 fa.length c1 z1, .slice o2 fl.length c2 z2, .int .i64 ((1 + x * 3 : Nat) : Int), nilA, nilA])
      (pdat hfd3 (dat_nil _ 8) (dat_nil _ 1)) rfl (by omega)
    simp -implicitDefEqProofs (maxDischargeDepth := 15) only [↓reduceIte, Yr, Ys, Yt, Wr, Wu, opA, Wv, Wx, Wy, Wz, Za, Zb, Zd, Ze, Vb, Vc, Vd, AV.cells, Vg, Zf, Zg, Zh, Zi, Nat.reduceAdd, Zj, Zk, Zm, Zn, Zo, Zp, Zs, Zt, fillA, and_self, lenA, firstA, eq_self, he]
    have hb : pStep l s i x = s ++ [.mk [] (.mk fo fn fa fl) (1 + x * 3) [] []] := by unfold pStep; rw [if_pos h0, hf]
    rw [hb] at hQ
    exact hQ _ _ _ _ _ _ _ _ _ _ _ _ _ _ _ ⟨rfl, rfl, rfl, rfl, rfl, rfl, rfl, rfl, rfl, rfl, rfl, rfl, rfl⟩ hS4 (by omega)
  have b0 : (((x % 4 : Nat) : Int) == 0) = false := by simp only [beq_eq_false_iff_ne]; omega
  by_cases h1 : x % 4 = 1
  · have b1 : (((x % 4 : Nat) : Int) == 1) = true := by simp [h1]
    have hS3 := hS.push (.cells [.str [63], .int .u8 fo, .str fn, .slice o1 fa.length c1 z1, .slice o2 fl.length c2 z2, .int .i64 0, nilA, nilA] true)
    obtain ⟨i', es, he, hS4⟩ := hS3.append (f := .mk [63] (.mk fo fn fa fl) 0 [] []) (xs := [.str [63], .int .u8 fo, .str fn, .slice o1 fa.length c1 z1, .slice o2 fl.length c2 z2, .int .i64 ((0 : Nat) : Int), nilA, nilA])
      (pdat (DAtL.sub (but_sub (sub_push hS.grown.wf _)) _ _ hfd) (dat_nil _ 8) (dat_nil _ 1)) rfl (by omega)
    have he' : appendA (σ.push (.cells [.str [63], .int .u8 fo, .str fn, .slice o1 fa.length c1 z1, .slice o2 fl.length c2 z2, .int .i64 0, nilA, nilA] true)).get (σ.push (.cells [.str [63], .int .u8 fo, .str fn, .slice o1 fa.length c1 z1, .slice o2 fl.length c2 z2, .int .i64 0, nilA, nilA] true)).next 8 144 (.slice so sn sc sz) 1 [.str [63], .int .u8 fo, .str fn, .slice o1 fa.length c1 z1, .slice o2 fl.length c2 z2, .int .i64 0, nilA, nilA] = _ := he
    simp -implicitDefEqProofs (maxDischargeDepth := 15) only [↓reduceIte, Yr, Ys, Yt, Yz, Wa, Wj, Wk, Wl, Wm, Wo, Wr, opA, Wv, Ww, Wx, Wy, Wz, Za, Zb, Zc, Zd, Ze, Vb, Vc, Vd, AV.cells, Vg, partA, Zf, Zg, Zh, Zi, Nat.reduceAdd, Nat.reduceLeDiff, Zj, Zk, Zm, Zn, Zo, Zp, Zs, Zt, binA, fillA, and_self, lenA, firstA, eq_self, c67_2, c67_3, c67_4, c67_5, c67_6, c67_7, c67_8, c67_9, c67_10, c67_11, c67_12, c67_13, c67_14, c67_15, c67_16, c67_17, c67_18, c67_19, c67_20, c67_21, c67_22, c67_23, c67_24, c67_25, c67_26, c67_27, c67_28, c67_29, c67_30, c67_31, m4, z4, b0, b1, hfp, he']
    have hb : pStep l s i x = s ++ [.mk [63] (.mk fo fn fa fl) 0 [] []] := by unfold pStep; rw [if_neg h0, if_pos h1, hf]
    rw [hb] at hQ
    exact hQ _ _ _ _ _ _ _ _ _ _ _ _ _ _ _ ⟨rfl, rfl, rfl, rfl, rfl, rfl, rfl, rfl, rfl, rfl, rfl, rfl, rfl⟩ hS4 (by omega)
  have b1 : (((x % 4 : Nat) : Int) == 1) = false := by simp only [beq_eq_false_iff_ne]; omega
  by_cases h2 : x / 4 % 5 ≤ sn
  · have d1 : decide (((x / 4 % 5 : Nat) : Int) ≤ (sn : Int)) = true := decide_eq_true (by omega)
    have m3 : (x : Int).tmod 3 = ((x % 3 : Nat) : Int) := tmodN x 3
    have z3 : ((3 : Int) = 0) = False := by simp
    have e3 : (0 : Int) ≤ ((x % 3 : Nat) : Int) ∧ ((x % 3 : Nat) : Int) < ((3 : Nat) : Int) := by omega
    have g3 : ([.str [97, 110, 100, 73], .str [114, 50], .str [81]] : List AV)[x % 3]? = some (.str (pRule x)) := by
      unfold pRule
      have : x % 3 = 0 ∨ x % 3 = 1 ∨ x % 3 = 2 := by omega
      rcases this with e | e | e <;> rw [e] <;> rfl
    simp -implicitDefEqProofs (maxDischargeDepth := 15) only [↓reduceIte, Yr, Ys, Yt, Yz, Wa, Wj, Wk, Wl, Wm, Wo, opA, Wv, Ww, Wx, Wy, Wz, Va, Za, Zb, Zc, Zd, Ze, Vb, Vc, Vd, Ve, AV.cells, Vg, Vh, Vn, partA, Zf, Zg, Zh, Zi, Nat.reduceAdd, Nat.reduceLeDiff, Zj, Zk, Zm, Zn, Zo, Zp, Zs, Zt, binA, fillA, putL, allOne, Zu, Zv, AV.one, Zy, and_self, Yf, eq_self, c67_2, c67_3, c67_4, c67_21, c67_23, c67_24, c67_25, c67_26, c67_27, c67_28, c67_29, c67_30, c67_31, m4, z4, b0, b1, d1, m3, z3, e3, g3, Nat.mul_one, hfp, hfl]
    have hW := hS.grown.wf
    have hS2 := hS.push (.cells [.str [97, 110, 100, 73], .str [114, 50], .str [81]] true)
    have hW2 := hS2.grown.wf
    have hfd2 := DAtL.sub (but_sub (e := e) (so := so) (sub_push hW (.cells [.str [97, 110, 100, 73], .str [114, 50], .str [81]] true))) _ _ hfd
    have hPI : PIn (σ.push (.cells [.str [97, 110, 100, 73], .str [114, 50], .str [81]] true)) ((σ.push (.cells [.str [97, 110, 100, 73], .str [114, 50], .str [81]] true)).push (.cells [.str (pRule x), .int .u8 fo, .str fn, .slice o1 fa.length c1 z1, .slice o2 fl.length c2 z2, .int .i64 0, nilA, nilA] true)) (σ.push (.cells [.str [97, 110, 100, 73], .str [114, 50], .str [81]] true)).next (pRule x) [.int .u8 fo, .str fn, .slice o1 fa.length c1 z1, .slice o2 fl.length c2 z2] none 0 (some 0) 0 [] none (some 0) 0 [] [] :=
      ⟨(Grow.refl hW2).push _, Nat.le_refl _, Vg, Grown.nil hW2 (hW2.push _) (sub_push hW2 _) (Nat.le_succ _) _ _ _, Grown.nil hW2 (hW2.push _) (sub_push hW2 _) (Nat.le_succ _) _ _ _, by simp [DAtL], by simp, by simp, by simp⟩
    refine psub_ok hx (Nat.mod_lt _ (by omega)) hS2 (by omega) h2 hPI ⟨rfl, rfl, rfl, rfl, rfl, rfl, rfl, rfl, rfl, rfl, rfl, rfl, rfl⟩ ?_
    intro ts3 σ3 so' sc' sz' cs1 mo mc mz cs2 v10 v11 v12 hL3 hI hD
    obtain ⟨a, rfl⟩ := hL3.open
    have hgi := hI.at'
    have hil := hI.grow.wf.lt hgi
    have hS3 := hS2.grow hI.grow
    have w1 : wrapF .i64 ((sn : Int) - ((x / 4 % 5 : Nat) : Int)) = ((sn - x / 4 % 5 : Nat) : Int) := by rw [wrap_i64 (by omega)]; omega
    have hel := hS2.el
    have hSm : Sub (but e (σ.push (.cells [.str [97, 110, 100, 73], .str [114, 50], .str [81]] true)) so) (but e (σ3.push (.cells [.str (pRule x), .int .u8 fo, .str fn, .slice o1 fa.length c1 z1, .slice o2 fl.length c2 z2, .int .i64 0, .slice so' (x / 4 % 5) sc' sz', .slice mo (x / 4 % 5) mc mz] true)) so) := (but_sub hI.grow.sub).trans (but_sub (sub_push hI.grow.wf _))
    have hsol : ∀ i, so = some (i, 0) → i < (σ.push (.cells [.str [97, 110, 100, 73], .str [114, 50], .str [81]] true)).next := fun i hi => (hS2.keep_lt hi).2
    have hs4 := hS3.push (.cells [.str (pRule x), .int .u8 fo, .str fn, .slice o1 fa.length c1 z1, .slice o2 fl.length c2 z2, .int .i64 0, .slice so' (x / 4 % 5) sc' sz', .slice mo (x / 4 % 5) mc mz] true)
    have hsl : DAt (but e (σ3.push (.cells [.str (pRule x), .int .u8 fo, .str fn, .slice o1 fa.length c1 z1, .slice o2 fl.length c2 z2, .int .i64 0, .slice so' (x / 4 % 5) sc' sz', .slice mo (x / 4 % 5) mc mz] true)) so) (.sl 8 (s.drop (sn - x / 4 % 5)).length (Pf.dvs (s.drop (sn - x / 4 % 5)))) (.slice so' (x / 4 % 5) sc' sz') := by
      have : (s.drop (sn - x / 4 % 5)).length = x / 4 % 5 := by simp; omega
      rw [this]
      exact grown_dat hI.subs (fun i b hi _ q => but_mk (fun w => by have := hsol i w; omega) (sub_push hI.grow.wf _ i b q) (by omega)) (DAtL.sub hSm _ _ hD)
    have hml : DAt (but e (σ3.push (.cells [.str (pRule x), .int .u8 fo, .str fn, .slice o1 fa.length c1 z1, .slice o2 fl.length c2 z2, .int .i64 0, .slice so' (x / 4 % 5) sc' sz', .slice mo (x / 4 % 5) mc mz] true)) so) (.sl 1 ((List.range (x / 4 % 5)).map (pMarks x)).length (((List.range (x / 4 % 5)).map (pMarks x)).map mdv)) (.slice mo (x / 4 % 5) mc mz) := by
      have : ((List.range (x / 4 % 5)).map (pMarks x)).length = x / 4 % 5 := by simp
      rw [this]
      refine grown_dat hI.marks (fun i b hi _ q => but_mk (fun w => by have := hsol i w; omega) (sub_push hI.grow.wf _ i b q) (by omega)) (DAtL.sub (fun j b q => ?_) _ _ hI.mdat)
      obtain ⟨q1, q2, q3, q4, q5⟩ := inner_some q
      exact but_mk (fun w => by have := hsol j w; omega) (sub_push hI.grow.wf _ j b q5) (by omega)
    have hpd : DAtL (but e (σ3.push (.cells [.str (pRule x), .int .u8 fo, .str fn, .slice o1 fa.length c1 z1, .slice o2 fl.length c2 z2, .int .i64 0, .slice so' (x / 4 % 5) sc' sz', .slice mo (x / 4 % 5) mc mz] true)) so) (Pf.mk (pRule x) (.mk fo fn fa fl) 0 (s.drop (sn - x / 4 % 5)) ((List.range (x / 4 % 5)).map (pMarks x))).dv [.str (pRule x), .int .u8 fo, .str fn, .slice o1 fa.length c1 z1, .slice o2 fl.length c2 z2, .int .i64 0, .slice so' (x / 4 % 5) sc' sz', .slice mo (x / 4 % 5) mc mz] := pdat (r := pRule x) (n := 0) (DAtL.sub hSm _ _ hfd2) hsl hml
    have hb : pStep l s i x = s.take (sn - x / 4 % 5) ++ [.mk (pRule x) (.mk fo fn fa fl) 0 (s.drop (sn - x / 4 % 5)) ((List.range (x / 4 % 5)).map (pMarks x))] := by unfold pStep; rw [if_neg h0, if_neg h1, if_pos (by omega), hf, hlen]
    rw [hb] at hQ
    have l1 : sn - x / 4 % 5 ≤ sn := by omega
    rcases hS3.grown.at' with ⟨rfl, hsn0⟩ | ⟨rfl, rfl, is, rfl, _, hgs⟩
    · have hs0 : s = [] := List.length_eq_zero_iff.1 (by omega)
      subst hs0
      subst hsn0
      have hmz : x / 4 % 5 = 0 := by omega
      have hcs : cs = [] := List.length_eq_zero_iff.1 (by have := hS.grown.len; omega)
      subst hcs
      have hs5 : Stq e σ1 _ none 0 (some 0) 8 [] [] := ⟨⟨hs4.grown.wf0, hs4.grown.wf, hs4.grown.keep, hs4.grown.le, rfl, .inl ⟨rfl, rfl⟩⟩, by simp [Pf.dvs, DAtL], rfl, hs4.elt⟩
      obtain ⟨i', es, he, hS6⟩ := hs5.append hpd rfl (by omega)
      have z1 : 0 - x / 4 % 5 = 0 := by omega
      simp -implicitDefEqProofs (maxDischargeDepth := 15) only [↓reduceIte, Yr, Ys, Yt, Wj, Wo, Wr, Ws, opA, Wv, Wx, Wy, Wz, Za, Zb, Zc, Zd, Ze, Vb, Vc, Vd, AV.cells, Vg, partA, Zf, Zg, Zh, Zi, Nat.reduceAdd, Zj, Nat.zero_le, Zk, Zl, Zm, Zn, Zo, Zp, Zs, Zt, binA, fillA, and_self, lenA, firstA, Ya, natOf, upTo, bMax, bHigh, bLow, boundsA, evO, Yh, eq_self, Yl, true_or, c67_22, w1, z1, hgi, Nat.sub_zero, Nat.zero_le, he]
      have q1 : ([] : List Pf).take (0 - x / 4 % 5) ++ [.mk (pRule x) (.mk fo fn fa fl) 0 (([] : List Pf).drop (0 - x / 4 % 5)) ((List.range (x / 4 % 5)).map (pMarks x))] = [] ++ [.mk (pRule x) (.mk fo fn fa fl) 0 (([] : List Pf).drop (0 - x / 4 % 5)) ((List.range (x / 4 % 5)).map (pMarks x))] := by simp
      rw [q1] at hQ
      exact hQ _ _ _ _ _ _ _ _ _ _ _ _ _ _ _ ⟨rfl, rfl, rfl, rfl, rfl, rfl, rfl, rfl, rfl, rfl, rfl, rfl, rfl⟩ hS6 (by omega)
    · obtain ⟨he, hS6⟩ := hs4.appendTake (k := sn - x / 4 % 5) rfl l1 hpd (by omega)
      simp -implicitDefEqProofs (maxDischargeDepth := 15) only [↓reduceIte, Yr, Ys, Yt, Wj, Wo, Wr, Ws, opA, Wv, Wx, Wy, Wz, Za, Zb, Zc, Zd, Ze, Vb, Vc, Vd, AV.cells, Vg, partA, Zf, Zg, Zh, Zi, Nat.reduceAdd, Zj, Zk, Zl, Zm, Zn, Zo, Zp, Zs, Zt, binA, fillA, and_self, lenA, firstA, Zz, reduceCtorEq, natOf, upTo, bMax, bHigh, bLow, boundsA, evO, Yh, Yi, eq_self, Yl, or_true, c67_22, w1, l1, hgi, Nat.sub_zero, he]
      exact hQ _ _ _ _ _ _ _ _ _ _ _ _ _ _ _ ⟨rfl, rfl, rfl, rfl, rfl, rfl, rfl, rfl, rfl, rfl, rfl, rfl, rfl⟩ hS6 (by omega)
  · have d1 : decide (((x / 4 % 5 : Nat) : Int) ≤ (sn : Int)) = false := decide_eq_false (by omega)
    simp -implicitDefEqProofs (maxDischargeDepth := 15) only [↓reduceIte, Yr, Ys, Yt, Wa, Wg, Wj, Wk, Wl, Wm, Wo, Wr, opA, Wv, Ww, Wx, Wy, Wz, Za, Zb, Vb, binA, eq_self, c67_2, c67_3, c67_4, c67_21, c67_23, c67_24, c67_25, c67_26, c67_27, c67_28, c67_29, c67_30, c67_31, m4, z4, b0, b1, d1]
    have hb : pStep l s i x = s := by unfold pStep; rw [if_neg h0, if_neg h1, if_neg (by omega)]
    rw [hb] at hQ
    exact hQ _ _ _ _ _ _ _ _ _ _ _ _ _ _ _ ⟨rfl, rfl, rfl, rfl, rfl, rfl, rfl, rfl, rfl, rfl, rfl, rfl, rfl⟩ hS (by omega)
end Go.Am
namespace Go.Am
open Go.RowKit Go.Proofs Do
set_option maxRecDepth 100000
set_option maxHeartbeats 4000000 in
theorem proved_ok {σ : AState} {o : Option (Nat × Nat)} {n z : Nat} {l : List Nat} (hB : Bys σ.get o n z l) (hx : ∀ x ∈ l, x < 256) :
    RunF RR Tryz.prog n_law41_Proved [.slice o n none z] σ (fun u σ' => ∃ xs, u = .agg xs ∧ DAtL (newer σ σ') (proved l).dv xs ∧ Grow σ σ') := by
  refine RunV.wf fun hW => ?_
  refine runF_intro hmx rf_law41_Proved ?_
  have hlen := hB.len
  have hW1 := hW.push (.cells zeroP true)
  have hB1 := hB.sub (sub_push hW (.cells zeroP true))
  simp -implicitDefEqProofs (maxDischargeDepth := 15) only [Yr, Ys, Yt, Wj, Wk, Wm, Wo, opA, Ww, Wz, Za, Zb, List.replicate, Zc, Zd, Ze, Vb, Vc, Vd, Zf, Zg, Nat.reduceSub, Zk, i_law41_Proved, c67_39, c67_46, c67_47, c67_48]
  have h0 : Stq σ.next (σ.push (.cells zeroP true)) (σ.push (.cells zeroP true)) none 0 (some 0) 0 (provedS l 0) [] :=
    ⟨Grown.nil hW1 hW1 (fun _ _ e => e) (Nat.le_refl _) _ _ _, by simp [provedS, Pf.dvs, DAtL], rfl, Nat.lt_succ_self _⟩
  show wpC RR Tryz.prog (.loop c67_37) _ _ _
  refine wp_loopK (fun ts σ' m => ∃ (i : Nat) (so : Option (Nat × Nat)) (sn : Nat) (sc : Option Nat) (sz : Nat) (cs : List AV) (v5 v6 v7 v8 v9 v10 v11 v12 : AV), Stq σ.next (σ.push (.cells zeroP true)) σ' so sn sc sz (provedS l i) cs ∧ sn ≤ i ∧ i ≤ 30 ∧ i + m = min n 30 ∧
    PLive ts (.slice o n none z) (.ptr (some (σ.next, 0))) (.slice so sn sc sz) (.int .i64 i) v5 v6 v7 v8 v9 v10 v11 v12) (min n 30) ⟨0, none, 0, some 0, 0, [], _, _, _, _, _, _, _, _, h0, Nat.le_refl _, by omega, by omega, rfl, rfl, rfl, rfl, rfl, rfl, rfl, rfl, rfl, rfl, rfl, rfl, rfl⟩ ?_
  rintro m ts σ' ⟨i, so, sn, sc, sz, cs, v5, v6, v7, v8, v9, v10, v11, v12, hS, hsi, hi30, him, hL⟩
  obtain ⟨a, rfl⟩ := hL.open
  have hSl := hS.len
  by_cases hlt : i < min n 30
  · obtain ⟨x, hxi, hxm⟩ := get_lt (l := l) (k := i) (by omega)
    have hx8 := hx x hxm
    have hBk := hB1.sub hS.grown.keep
    obtain ⟨rfl, ib, off, bs, w, rfl, hg, hbe⟩ := hBk.elem hxi
    have c1 : decide ((i : Int) < (n : Int)) = true := decide_eq_true (by omega)
    have c2 : decide ((i : Int) < 30) = true := decide_eq_true (by omega)
    have e1 : (0 : Int) ≤ (i : Int) ∧ (i : Int) < (n : Int) := by omega
    have d2 : wrapF .i64 ((i : Int).tdiv 2) = ((i / 2 : Nat) : Int) := by rw [show (2 : Int) = ((2 : Nat) : Int) from rfl, tdivN, wrap_i64 (by omega)]
    have z2 : ((2 : Int) = 0) = False := by simp
    have w1 : wrapF .i64 (x : Int) = (x : Int) := wrap_i64 (by omega)
    have m4 : (x : Int).tmod 4 = ((x % 4 : Nat) : Int) := tmodN x 4
    have z4 : ((4 : Int) = 0) = False := by simp
    have w2 : wrapF .i64 (((i / 2 : Nat) : Int) + ((x % 4 : Nat) : Int)) = ((i / 2 + x % 4 : Nat) : Int) := by rw [wrap_i64 (by omega)]; omega
    have hmin : (if (n : Int) < ((i / 2 + x % 4 : Nat) : Int) then (n : Int) else ((i / 2 + x % 4 : Nat) : Int)) = ((min (i / 2 + x % 4) n : Nat) : Int) := by split <;> omega
    have l1 : min (i / 2 + x % 4) n ≤ n := Nat.min_le_right _ _
    have l2 : i / 2 ≤ min (i / 2 + x % 4) n := by omega
    simp -implicitDefEqProofs (maxDischargeDepth := 15) only [↓reduceIte, Yr, Ys, Yt, Yv, Yz, Wb, Wc, Wd, Wg, Wj, Wk, Wl, Wm, Wo, opA, Wv, Ww, Wx, Wy, Wz, Za, Zb, Vb, partA, Zh, Zi, binA, and_self, true_and, Zz, Ya, reduceCtorEq, Yf, natOf, upTo, bMax, bHigh, bLow, boundsA, evO, Yi, againOk, Vu, Vv, Yj, eq_self, or_true, Yp, c67_0, c67_1, c67_33, c67_34, c67_35, c67_36, c67_37, c2, e1, hg, hbe, d2, z2, w1, m4, z4, w2, minA, hmin, l1, l2, Nat.mul_one]
    have hBc := hBk.cut l2 l1
    simp only [Option.map_some] at hBc
    refine (builtN_ok hBc (fun y hy => hx y (List.mem_of_mem_take (List.mem_of_mem_drop hy)))).mono ?_
    rintro u σ2 ⟨xs, rfl, hD, hG2⟩
    have hpf : pForm l i x = built ((l.take (min (i / 2 + x % 4) n)).drop (i / 2)) := by unfold pForm; rw [hlen]
    rw [← hpf] at hD
    obtain ⟨fo, fn, fa, fl, ef⟩ := form_is (pForm l i x)
    have hD0 := hD
    rw [ef] at hD0
    have hD1 := hD0
    obtain ⟨o1, q1, z1, o2, q2, z2', rfl, _, _⟩ := F.cells hD1
    have d4 : wrapF .u8 ((x : Int).tdiv 4) = ((x / 4 : Nat) : Int) := by rw [show (4 : Int) = ((4 : Nat) : Int) from rfl, tdivN, wrap_u8 (by omega)]
    have w4 : wrapF .i64 ((x / 4 : Nat) : Int) = ((x / 4 : Nat) : Int) := wrap_i64 (by omega)
    have m5 : ((x / 4 : Nat) : Int).tmod 5 = ((x / 4 % 5 : Nat) : Int) := tmodN _ 5
    have z5 : ((5 : Int) = 0) = False := by simp
    simp -implicitDefEqProofs (maxDischargeDepth := 15) only [↓reduceIte, Yr, Ys, Yt, Wj, Wk, Wo, Wu, opA, Wv, Ww, Wx, Wy, Wz, Va, Za, Zb, Zd, Ze, Vb, Vc, Vd, Ve, AV.cells, Vg, Vn, Zf, Zg, Nat.reduceAdd, Zj, Zk, Zn, Zp, Zs, binA, putL, allOne, Zu, Zv, AV.one, Zy, and_self, eq_self, c67_32, d4, w4, m5, z4, z5]
    have hS2 := (hS.grow hG2).push (.cells [.int .u8 fo, .str fn, .slice o1 fa.length q1 z1, .slice o2 fl.length q2 z2'] true)
    have hel := hS.el
    refine pswitch_ok (l := l) (fp := σ2.next) hx8 (by omega) hS2 hsi Vg ef (DAtL.sub (fun j b q => ?_) _ _ hD0) ⟨rfl, rfl, rfl, rfl, rfl, rfl, rfl, rfl, rfl, rfl, rfl, rfl, rfl⟩ ?_
    · obtain ⟨h1, h2⟩ := newer_some q
      exact but_mk (fun w => by have := (hS.keep_lt w).2; omega) (sub_push hG2.wf _ _ _ h2) (by omega)
    · intro ts' σ3 so' sn' sc' sz' cs' v5 v6 v7 v8 v9 v10 v11 v12 hL' hS' hsn'
      obtain ⟨a, rfl⟩ := hL'.open
      have w6 : wrapF .i64 ((i : Int) + 1) = ((i + 1 : Nat) : Int) := by rw [wrap_i64 (by omega)]; rfl
      simp -implicitDefEqProofs (maxDischargeDepth := 15) only [↓reduceIte, Yr, Ys, Yt, Wj, Wo, Wr, opA, Wv, Ww, Wx, Wy, Wz, Za, Zb, Vb, binA, eq_self, w6, lk_n]
      refine ⟨m - 1, by omega, i + 1, so', sn', sc', sz', cs', _, _, _, _, _, _, _, _, ?_, by omega, by omega, by omega, rfl, rfl, rfl, rfl, rfl, rfl, rfl, rfl, rfl, rfl, rfl, rfl, rfl⟩
      have : l.getD i 0 = x := by simp [List.getD, hxi]
      show Stq _ _ _ _ _ _ _ (pStep l (provedS l i) i (l.getD i 0)) _
      rw [this]
      exact hS'
  · have him' : i = min l.length 30 := by omega
    have hpr : proved l = match (provedS l i).getLast? with | some p => p | none => .mk [] (.mk 2 [] [] []) 1 [] [] := by rw [him']; rfl
    have hWs := hS.grown.wf
    have h2 : σ'.get σ.next = some (.cells zeroP true) := hS.grown.keep _ _ Vg
    have h2l := hWs.lt h2
    have hGr : Grow σ σ' := ⟨Nat.le_of_succ_le hS.grown.le, fun i b e => hS.grown.keep i b (sub_push hW _ i b e), hWs⟩
    have hdec : (decide ((i : Int) < (n : Int)) = true ∧ decide ((i : Int) < 30) = false) ∨ decide ((i : Int) < (n : Int)) = false := by
      rcases Nat.lt_or_ge i n with q | q
      · exact .inl ⟨decide_eq_true (by omega), decide_eq_false (by omega)⟩
      · exact .inr (decide_eq_false (by omega))
    have htail : ∀ (ts : List AV), PLive ts (.slice o n none z) (.ptr (some (σ.next, 0))) (.slice so sn sc sz) (.int .i64 i) v5 v6 v7 v8 v9 v10 v11 v12 → wpC RR Tryz.prog c67_45 ts σ' (EndOk [(2, some (some 8))] (fun u σ' => ∃ xs, u = .agg xs ∧ DAtL (newer σ σ') (proved l).dv xs ∧ Grow σ σ')) := by
      intro ts hL
      obtain ⟨a, rfl⟩ := hL.open
      by_cases hs0 : sn = 0
      · subst hs0
        have hnil : provedS l i = [] := List.length_eq_zero_iff.1 hSl
        rw [hnil] at hpr
        simp -implicitDefEqProofs (maxDischargeDepth := 15) only [↓reduceIte, Yr, Ys, Yt, Yz, Wb, Wj, Wk, Wl, Wo, opA, Wv, Ww, Wx, Wy, Wz, Za, Zb, Vb, Zh, Zi, binA, eq_self, c67_40, c67_41, c67_42, c67_43, c67_44, c67_45, show (((0 : Nat) : Int) == 0) = true from rfl]
        refine RunV.to (law_join_ok _ _ _ _ _ _) ?_
        simp -implicitDefEqProofs (maxDischargeDepth := 15) only [Wb, Wu, Wv, Ww, Wx, Wy, Wz, Za, Zb, Zh, Zi]
        refine RunV.to (leaf_ok _ _ _ _ _ _ _ _ _ _ _ _) ?_
        simp -implicitDefEqProofs (maxDischargeDepth := 15) only [↓reduceIte, Yr, Ys, Yt, Wh, Wo, Wq, Wu, opA, Wv, Wx, Wy, Wz, Va, Za, Zb, Zd, Ze, Vb, Vc, Ve, AV.cells, Vh, Vj, Vk, partA, Zf, Zg, Nat.reduceAdd, Zj, Zk, Zm, Zn, Zo, Zp, Zs, Zt, putL, allOne, Zu, Zv, AV.one, Zy, and_self, EndOk, resultA, oneOf, eq_self, h2, h2l]
        rw [hpr]
        refine ⟨_, rfl, pdat (r := []) (n := 1) (fdat (dat_nil _ 3) (dat_nil _ 4)) (dat_nil _ 8) (dat_nil _ 1), (((hGr.push _).push _).push _).set hW (Nat.le_refl _) (by simp only [AState.push_next]; omega) _⟩
      · have c0 : ((sn : Int) == 0) = false := by simp only [beq_eq_false_iff_ne]; omega
        obtain ⟨p, hp⟩ : ∃ p, (provedS l i)[sn - 1]? = some p := ⟨(provedS l i)[sn - 1]'(by omega), List.getElem?_eq_getElem _⟩
        have hlast : (provedS l i).getLast? = some p := by rw [List.getLast?_eq_getElem?, hSl]; exact hp
        rw [hlast] at hpr
        obtain ⟨rfl, is, xs, rfl, hgs, hl8, hxs, hdp⟩ := hS.elem hp
        have hisl := hS.grown.wf.lt hgs
        obtain ⟨pr, pf, pn, psl, pm, ep⟩ := proof_is p
        obtain ⟨fo', fn', fa', fl', ef⟩ := form_is pf
        subst ef
        have hdp0 := hdp
        rw [ep] at hdp
        obtain ⟨p1, q1, y1, p2, q2, y2, p3, q3, y3, p4, q4, y4, rfl, _, _, _⟩ := Pf.cells hdp
        have w1 : wrapF .i64 ((sn : Int) - 1) = ((sn - 1 : Nat) : Int) := by rw [wrap_i64 (by omega)]; omega
        have e1 : (0 : Int) ≤ ((sn - 1 : Nat) : Int) ∧ ((sn - 1 : Nat) : Int) < (sn : Int) := by omega
        simp -implicitDefEqProofs (maxDischargeDepth := 15) only [↓reduceIte, Yr, Ys, Yt, Wa, Wg, Wh, Wj, Wk, Wl, Wo, opA, Wv, Ww, Wx, Wy, Wz, Va, Za, Zb, Zd, Ze, Vb, Vc, Ve, AV.cells, Vk, partA, Zf, Zg, Nat.reduceAdd, Zj, Zk, Zm, Zn, Zo, Zp, Zs, Zt, binA, putL, allOne, Zu, Zv, AV.one, Zy, and_self, EndOk, resultA, oneOf, Yf, eq_self, c67_40, c67_41, c67_42, c67_43, c67_44, c67_45, c0, w1, e1, hgs, hl8, hxs, h2]
        rw [hpr]
        refine ⟨_, rfl, DAtL.sub (fun j b q => ?_) _ _ hdp0, hGr.set hW (Nat.le_refl _) h2l _⟩
        obtain ⟨q1, q2, q3⟩ := but_some q
        refine newer_mk (by omega) ?_
        rw [Vl (by omega)]; exact q2
    rcases hdec with ⟨c1, c2⟩ | c1
    · simp -implicitDefEqProofs (maxDischargeDepth := 15) only [↓reduceIte, Yr, Ys, Yt, Yv, Wa, Wd, Wi, Wj, Wk, Wl, Wo, Wp, Ws, opA, Wv, Ww, Wx, Wy, Wz, Za, Zb, Vb, binA, Vu, Vv, Yj, eq_self, c67_0, c67_1, c67_2, c67_3, c67_4, c67_5, c67_6, c67_7, c67_8, c67_9, c67_10, c67_11, c67_12, c67_13, c67_14, c67_15, c67_16, c67_17, c67_18, c67_19, c67_20, c67_21, c67_22, c67_23, c67_24, c67_25, c67_26, c67_27, c67_28, c67_29, c67_30, c67_31, c67_32, c67_33, c67_34, c67_35, c67_36, c67_37, c1, c2, lk_e]
      exact htail _ ⟨rfl, rfl, rfl, rfl, rfl, rfl, rfl, rfl, rfl, rfl, rfl, rfl, rfl⟩
    · simp -implicitDefEqProofs (maxDischargeDepth := 15) only [↓reduceIte, Yr, Ys, Yt, Yw, Wa, Wd, Wi, Wj, Wk, Wl, Wo, Wp, Ws, opA, Wv, Ww, Wx, Wy, Wz, Za, Zb, Vb, binA, Yd, Vu, Vv, eq_self, Vx, c67_0, c67_1, c67_2, c67_3, c67_4, c67_5, c67_6, c67_7, c67_8, c67_9, c67_10, c67_11, c67_12, c67_13, c67_14, c67_15, c67_16, c67_17, c67_18, c67_19, c67_20, c67_21, c67_22, c67_23, c67_24, c67_25, c67_26, c67_27, c67_28, c67_29, c67_30, c67_31, c67_32, c67_33, c67_34, c67_35, c67_36, c67_37, c1, lk_e]
      exact htail _ ⟨rfl, rfl, rfl, rfl, rfl, rfl, rfl, rfl, rfl, rfl, rfl, rfl, rfl⟩
end Go.Am
namespace Go.Am
open Go.RowKit Go.Proofs Do
set_option maxRecDepth 100000
mutual
theorem sane_of_tiny : ∀ f : F, f.tiny → f.nodes ≤ 1000000 → f.sane
  | .mk op n ar l, h, hn => by
    simp only [F.tiny] at h
    simp only [F.nodes] at hn
    simp only [F.sane]
    have hl : ∀ (m : Nat) (l : List T), T.cnts l ≤ m → T.tinys l → T.lens l ≤ T.cnts l := by
      intro m
      induction m with
      | zero =>
        intro l h _
        cases l with
        | nil => simp [T.lens, T.cnts]
        | cons a r => cases a; simp only [T.cnts, T.cnt] at h; omega
      | succ m ih =>
        intro l h ht
        cases l with
        | nil => simp [T.lens, T.cnts]
        | cons a r =>
          obtain ⟨v, nm, ar2⟩ := a
          simp only [T.cnts, T.cnt] at h
          simp only [T.tinys, T.tiny] at ht
          have h1 := ih ar2 (by omega) ht.1.2
          have h2 := ih r (by omega) ht.2
          have h3 := ht.1.1
          simp only [T.lens, T.len, T.cnts, T.cnt]; omega
    have := hl _ ar (Nat.le_refl _) h.2.2.1
    exact ⟨h.1, by omega, by omega, sanes_of_tiny l h.2.2.2 (by omega)⟩
theorem sanes_of_tiny : ∀ l : List F, F.tinys l → F.nodess l ≤ 1000000 → F.sanes l
  | [], _, _ => trivial
  | f :: r, h, hn => by
    simp only [F.tinys] at h
    simp only [F.nodess] at hn
    exact ⟨sane_of_tiny f h.1 (by omega), sanes_of_tiny r h.2 (by omega)⟩
end
theorem right_sizes {f : F} (h : f.right = true) : f.nodes ≤ 400 ∧ f.depth ≤ 40 := by
  simp only [F.right, Bool.and_eq_true, decide_eq_true_eq] at h
  exact h.1
theorem Ps.elem {g : Mem} {o : Option (Nat × Nat)} {n z : Nat} {l : List Pf} (h : Ps g o n z l) {k : Nat} {t : Pf} (ht : l[k]? = some t) :
    z = 8 ∧ ∃ i off cs w, o = some (i, off) ∧ g i = some (.cells cs w) ∧ off + k * 8 + 8 ≤ cs.length ∧ ∃ xs, (cs.drop (off + k * 8)).take 8 = xs ∧ DAtL g t.dv xs := by
  obtain ⟨a, b, c⟩ := h
  have hk : k < l.length := by
    rcases Nat.lt_or_ge k l.length with q | q
    · exact q
    · rw [List.getElem?_eq_none q] at ht; cases ht
  have hn : n ≠ 0 := by omega
  refine ⟨b.resolve_left hn, ?_⟩
  obtain ⟨i, off, cs, w, xs, h1, h2, h3, rfl, h5⟩ := c.resolve_left hn
  refine ⟨i, off, cs, w, h1, h2, by omega, _, rfl, ?_⟩
  have := (h5.drop (k * 8)).take 8
  rw [Pf.dvs_get l k t ht, List.drop_take, List.drop_drop, List.take_take, Nat.min_eq_left (by omega)] at this
  exact this
theorem Ms.elem {g : Mem} {o : Option (Nat × Nat)} {n z : Nat} {l : List (List Nat)} (h : Ms g o n z l) {k : Nat} {t : List Nat} (ht : l[k]? = some t) :
    z = 1 ∧ ∃ i off cs w, o = some (i, off) ∧ g i = some (.cells cs w) ∧ ∃ o' c' z', cs[off + k]? = some (.slice o' t.length c' z') ∧ Is g o' t.length z' t := by
  obtain ⟨a, b, c⟩ := h
  have hk : k < l.length := by
    rcases Nat.lt_or_ge k l.length with q | q
    · exact q
    · rw [List.getElem?_eq_none q] at ht; cases ht
  have hn : n ≠ 0 := by omega
  refine ⟨b.resolve_left hn, ?_⟩
  obtain ⟨i, off, cs, w, xs, h1, h2, h3, rfl, h5⟩ := c.resolve_left hn
  refine ⟨i, off, cs, w, h1, h2, ?_⟩
  have hk2 : (l.map mdv)[k]? = some (mdv t) := by rw [List.getElem?_map, ht]; rfl
  obtain ⟨v, hv, hd⟩ := h5.get hk2
  obtain ⟨o', c', z', rfl, hI⟩ := mdv_cells hd
  refine ⟨o', c', z', ?_, hI⟩
  rw [List.getElem?_take_of_lt (by omega), List.getElem?_drop] at hv
  exact hv
theorem Is.elem {g : Mem} {o : Option (Nat × Nat)} {n z : Nat} {l : List Nat} (h : Is g o n z l) {k x : Nat} (hx : l[k]? = some x) : z = 1 ∧ ∃ i off cs w, o = some (i, off) ∧ g i = some (.cells cs w) ∧ cs[off + k]? = some (.int .i64 x) := by
  obtain ⟨a, b, c⟩ := h
  have hk : k < l.length := by
    rcases Nat.lt_or_ge k l.length with q | q
    · exact q
    · rw [List.getElem?_eq_none q] at hx; cases hx
  have hn : n ≠ 0 := by omega
  refine ⟨b.resolve_left hn, ?_⟩
  obtain ⟨i, off, cs, w, h1, h2, h3, h4⟩ := c.resolve_left hn
  refine ⟨i, off, cs, w, h1, h2, ?_⟩
  have : ((cs.drop off).take n)[k]? = some (.int .i64 x) := by rw [h4, List.getElem?_map, hx]; rfl
  rw [List.getElem?_take_of_lt (by omega), List.getElem?_drop] at this
  exact this
theorem name_ev : ([[97, 110, 100, 73], [114, 50], [81]].all fun r => match evA n_describe_name [.str r] with | some (.bool true, _) => true | _ => false) = true := by kernel_rfl
theorem rname_ok {r : Str} (h : isRule r) (σ : AState) : RunF RR Tryz.prog n_describe_name [.str r] σ (fun u σ' => u = .bool true ∧ σ' = σ) := by
  have h1 := List.all_eq_true.1 name_ev r (by rcases h with rfl | rfl | rfl <;> simp)
  split at h1
  · rename_i τ e; exact evA_ok rfl rfl e σ
  · cases h1
theorem label_ok {n : Nat} (hn : n ≤ 999) (σ : AState) : RunF RR Tryz.prog n_describe_fitsS1 [.int .i64 n] σ (fun u σ' => u = .bool true ∧ σ' = σ) := by
  refine runF_intro hmx rf_describe_fitsS1 ?_
  have d1 : decide ((n : Int) ≥ 0) = true := decide_eq_true (by omega)
  have d2 : decide ((n : Int) ≤ 999) = true := decide_eq_true (by omega)
  simp -implicitDefEqProofs (maxDischargeDepth := 15) only [↓reduceIte, Yr, Ys, Yt, Yv, Wd, Wh, Wj, Wk, Wo, opA, Wv, Ww, Wx, Wy, Wz, Za, Zb, List.replicate, Zc, Zd, Ze, Vb, Zf, Zg, Nat.reduceSub, Zk, binA, and_self, EndOk, resultA, oneOf, Zz, Yg, Vu, Vv, Yj, eq_self, Yp, i_describe_fitsS1, c34_0, c34_1, d2]
theorem sizes_take {l : List Pf} {k : Nat} {t : Pf} (h : l[k]? = some t) : Pf.sizes (l.take (k + 1)) = Pf.sizes (l.take k) + t.size := by
  induction l generalizing k with
  | nil => simp at h
  | cons a r ih =>
    cases k with
    | zero => simp only [List.getElem?_cons_zero, Option.some.injEq] at h; subst h; simp [Pf.sizes]
    | succ k => simp only [List.getElem?_cons_succ] at h; simp only [List.take_succ_cons, Pf.sizes, ih h]; omega
theorem sizes_take_le {l : List Pf} {k : Nat} {t : Pf} (h : l[k]? = some t) : Pf.sizes (l.take k) + t.size ≤ Pf.sizes l := by
  rw [← sizes_take h]
  have : l = l.take (k + 1) ++ l.drop (k + 1) := (List.take_append_drop _ _).symm
  have h2 := psizes_append (l.take (k + 1)) (l.drop (k + 1))
  rw [← this] at h2; omega
theorem phighs_mem {l : List Pf} {p : Pf} (h : p ∈ l) : p.high ≤ Pf.highs l := by
  induction l with
  | nil => cases h
  | cons a r ih =>
    simp only [Pf.highs]
    rcases List.mem_cons.1 h with e | e
    · subst e; omega
    · have := ih e; omega
structure FLive (ts : List AV) (v1 v2 v3 v7 v88 v89 v90 : AV) : Prop where
  len : ts.length = 120
  t1 : ts.getD 1 U = v1
  t2 : ts.getD 2 U = v2
  t3 : ts.getD 3 U = v3
  t7 : ts.getD 7 U = v7
  t88 : ts.getD 88 U = v88
  t89 : ts.getD 89 U = v89
  t90 : ts.getD 90 U = v90
theorem FLive.open {ts : List AV} {v1 v2 v3 v7 v88 v89 v90 : AV} (h : FLive ts v1 v2 v3 v7 v88 v89 v90) : ∃ a : Nat → AV, ts = [a 0, v1, v2, v3, a 4, a 5, a 6, v7, a 8, a 9, a 10, a 11, a 12, a 13, a 14, a 15, a 16, a 17, a 18, a 19, a 20, a 21, a 22, a 23, a 24, a 25, a 26, a 27, a 28, a 29, a 30, a 31, a 32, a 33, a 34, a 35, a 36, a 37, a 38, a 39, a 40, a 41, a 42, a 43, a 44, a 45, a 46, a 47, a 48, a 49, a 50, a 51, a 52, a 53, a 54, a 55, a 56, a 57, a 58, a 59, a 60, a 61, a 62, a 63, a 64, a 65, a 66, a 67, a 68, a 69, a 70, a 71, a 72, a 73, a 74, a 75, a 76, a 77, a 78, a 79, a 80, a 81, a 82, a 83, a 84, a 85, a 86, a 87, v88, v89, v90, a 91, a 92, a 93, a 94, a 95, a 96, a 97, a 98, a 99, a 100, a 101, a 102, a 103, a 104, a 105, a 106, a 107, a 108, a 109, a 110, a 111, a 112, a 113, a 114, a 115, a 116, a 117, a 118, a 119] := by
  have h1 := list_range h.len
  refine ⟨fun i => ts.getD i U, ?_⟩
  rw [← h.t1, ← h.t2, ← h.t3, ← h.t7, ← h.t88, ← h.t89, ← h.t90]
  exact h1
set_option maxHeartbeats 4000000 in
theorem pfits_ok {lp : Nat} : ∀ (m : Nat) (p : Pf), p.size ≤ m → p.fit → ∀ (d left : Nat), d + p.high ≤ 41 → p.size ≤ left → left ≤ 300 → ∀ (σ : AState) (g : Mem) (xs : List AV), σ.get lp = some (.cells [.int .i64 left] true) → Sub g σ.get → g lp = none → DAtL g p.dv xs →
    RunF RR Tryz.prog n_describe_fits [.agg xs, .int .i64 d, .ptr (some (lp, 0))] σ (fun u σ' => u = .bool true ∧ σ'.get lp = some (.cells [.int .i64 ((left - p.size : Nat) : Int)] true) ∧ Kept (fun j => j = lp) σ σ') := by
  intro m
  induction m using Nat.strongRecOn with
  | _ m ih =>
  intro p hpm hfit d left hd hleft hl300 σ g xs hlp hg0 hgl hD
  refine RunV.wf fun hW => ?_
  refine runF_intro hmx rf_describe_fits ?_
  obtain ⟨r, f, n, s, ms, ep⟩ := proof_is p
  obtain ⟨fo, fn, fa, fl, ef⟩ := form_is f
  subst ep
  have hfit0 := hfit
  rw [Pf.fit] at hfit
  obtain ⟨hr, ht, hcase, hsub⟩ := hfit
  have hfsz := right_sizes hr
  have hsane := sane_of_tiny f ht (by omega)
  subst ef
  obtain ⟨o1, c1, z1, o2, c2, z2, o3, c3, z3, o4, c4, z4, rfl, hFd, hP, hM⟩ := Pf.cells hD
  simp only [Pf.size] at hpm hleft ⊢
  simp only [Pf.high] at hd
  have hlpl := hW.lt hlp
  have hpos : (Pf.mk r (.mk fo fn fa fl) n s ms).size = 1 + Pf.sizes s := rfl
  have w1 : wrapF .i64 ((left : Int) - 1) = ((left - 1 : Nat) : Int) := by rw [wrap_i64 (by omega)]; omega
  have d1 : decide (((left - 1 : Nat) : Int) < 0) = false := decide_eq_false (by omega)
  have d2 : decide ((d : Int) > 40) = false := decide_eq_false (by omega)
  have hslen : s.length ≤ 4 := by rcases hcase with ⟨_, h, _⟩ | ⟨_, h, _⟩ | ⟨_, _, h, _⟩ <;> simp_all
  have hmlen : ms.length = s.length := by rcases hcase with ⟨_, h, h', _⟩ | ⟨_, h, h', _⟩ | ⟨_, _, _, h, _⟩ <;> simp_all
  have d3 : decide ((s.length : Int) > 4) = false := decide_eq_false (by omega)
  have d4 : ((ms.length : Int) != (s.length : Int)) = false := by rw [hmlen]; simp
  have hfx : ∀ (b : ABlk), (((σ.push (.cells [.str r, .int .u8 fo, .str fn, .slice o1 fa.length c1 z1, .slice o2 fl.length c2 z2, .int .i64 n, .slice o3 s.length c3 z3, .slice o4 ms.length c4 z4] true)).set lp (.cells [.int .i64 ((left - 1 : Nat) : Int)] true)).push b).get (σ.push (.cells [.str r, .int .u8 fo, .str fn, .slice o1 fa.length c1 z1, .slice o2 fl.length c2 z2, .int .i64 n, .slice o3 s.length c3 z3, .slice o4 ms.length c4 z4] true)).next = some b := fun b => Vg (σ := (σ.push (.cells [.str r, .int .u8 fo, .str fn, .slice o1 fa.length c1 z1, .slice o2 fl.length c2 z2, .int .i64 n, .slice o3 s.length c3 z3, .slice o4 ms.length c4 z4] true)).set lp (.cells [.int .i64 ((left - 1 : Nat) : Int)] true))
  have hfs : ∀ (b c : ABlk), (((σ.push (.cells [.str r, .int .u8 fo, .str fn, .slice o1 fa.length c1 z1, .slice o2 fl.length c2 z2, .int .i64 n, .slice o3 s.length c3 z3, .slice o4 ms.length c4 z4] true)).set lp (.cells [.int .i64 ((left - 1 : Nat) : Int)] true)).push b).set (σ.push (.cells [.str r, .int .u8 fo, .str fn, .slice o1 fa.length c1 z1, .slice o2 fl.length c2 z2, .int .i64 n, .slice o3 s.length c3 z3, .slice o4 ms.length c4 z4] true)).next c = ((σ.push (.cells [.str r, .int .u8 fo, .str fn, .slice o1 fa.length c1 z1, .slice o2 fl.length c2 z2, .int .i64 n, .slice o3 s.length c3 z3, .slice o4 ms.length c4 z4] true)).set lp (.cells [.int .i64 ((left - 1 : Nat) : Int)] true)).push c := fun b c => Vn (σ := (σ.push (.cells [.str r, .int .u8 fo, .str fn, .slice o1 fa.length c1 z1, .slice o2 fl.length c2 z2, .int .i64 n, .slice o3 s.length c3 z3, .slice o4 ms.length c4 z4] true)).set lp (.cells [.int .i64 ((left - 1 : Nat) : Int)] true))
  have hW1 := hW.push (.cells [.str r, .int .u8 fo, .str fn, .slice o1 fa.length c1 z1, .slice o2 fl.length c2 z2, .int .i64 n, .slice o3 s.length c3 z3, .slice o4 ms.length c4 z4] true)
  have hW2 : ((σ.push (.cells [.str r, .int .u8 fo, .str fn, .slice o1 fa.length c1 z1, .slice o2 fl.length c2 z2, .int .i64 n, .slice o3 s.length c3 z3, .slice o4 ms.length c4 z4] true)).set lp (.cells [.int .i64 ((left - 1 : Nat) : Int)] true)).Wf := hW1.set (Vj hlpl) _
  have hK2 : Kept (fun j => j = lp) σ ((σ.push (.cells [.str r, .int .u8 fo, .str fn, .slice o1 fa.length c1 z1, .slice o2 fl.length c2 z2, .int .i64 n, .slice o3 s.length c3 z3, .slice o4 ms.length c4 z4] true)).set lp (.cells [.int .i64 ((left - 1 : Nat) : Int)] true)) := ((Kept.refl hW).push _).set (Own := fun j => j = lp) rfl (Vj hlpl) _
  have hK3 := hK2.push (.cells [.func (.func n_describe_fitsS1) [] []] true)
  have hlp3 : (((σ.push (.cells [.str r, .int .u8 fo, .str fn, .slice o1 fa.length c1 z1, .slice o2 fl.length c2 z2, .int .i64 n, .slice o3 s.length c3 z3, .slice o4 ms.length c4 z4] true)).set lp (.cells [.int .i64 ((left - 1 : Nat) : Int)] true)).push (.cells [.func (.func n_describe_fitsS1) [] []] true)).get lp = some (.cells [.int .i64 ((left - 1 : Nat) : Int)] true) := by rw [Vh (by show lp < σ.next + 1; omega), Vk]
  have hb3 : (((σ.push (.cells [.str r, .int .u8 fo, .str fn, .slice o1 fa.length c1 z1, .slice o2 fl.length c2 z2, .int .i64 n, .slice o3 s.length c3 z3, .slice o4 ms.length c4 z4] true)).set lp (.cells [.int .i64 ((left - 1 : Nat) : Int)] true)).push (.cells [.func (.func n_describe_fitsS1) [] []] true)).get σ.next = some (.cells [.str r, .int .u8 fo, .str fn, .slice o1 fa.length c1 z1, .slice o2 fl.length c2 z2, .int .i64 n, .slice o3 s.length c3 z3, .slice o4 ms.length c4 z4] true) := by rw [Vh (by show σ.next < σ.next + 1; omega), Vl (by omega), Vg]
  have hf3 := hfx (.cells [.func (.func n_describe_fitsS1) [] []] true)
  simp -implicitDefEqProofs (maxDischargeDepth := 15) only [↓reduceIte, Yr, Ys, Yt, Wj, Wk, Wm, Wo, opA, Wv, Ww, Wx, Wy, Wz, Va, Za, Zb, List.replicate, Zc, Zd, Ze, Vb, Vc, Vd, Ve, AV.cells, Vh, AState.set_next, partA, Zf, Zg, Nat.reduceAdd, Nat.reduceSub, Zj, Zk, Zn, Zp, Zq, Zs, binA, putL, allOne, Zu, Zv, AV.one, Zy, and_self, eq_self, i_describe_fits, c43_26, c43_27, c43_28, c43_29, c43_30, c43_31, c43_32, hlp, hlpl, w1, hfx, hfs]
  generalize ((σ.push (.cells [.str r, .int .u8 fo, .str fn, .slice o1 fa.length c1 z1, .slice o2 fl.length c2 z2, .int .i64 n, .slice o3 s.length c3 z3, .slice o4 ms.length c4 z4] true)).set lp (.cells [.int .i64 ((left - 1 : Nat) : Int)] true)).push (.cells [.func (.func n_describe_fitsS1) [] []] true) = σ3 at *
  generalize (σ.push (.cells [.str r, .int .u8 fo, .str fn, .slice o1 fa.length c1 z1, .slice o2 fl.length c2 z2, .int .i64 n, .slice o3 s.length c3 z3, .slice o4 ms.length c4 z4] true)).next = fp at *
  have hfree : Free (fun j => j = lp) g := fun j b e q => by rw [q, hgl] at e; cases e
  have hg3 := hK3.sub hfree hg0
  have hlp3l := hK3.wf.lt hlp3
  have hb3l := hK3.wf.lt hb3
  have hf3l := hK3.wf.lt hf3
  simp -implicitDefEqProofs (maxDischargeDepth := 15) only [↓reduceIte, Ys, Yt, Yv, Wb, Wd, We, Wj, Wk, opA, Wv, Ww, Wx, Wy, Wz, Za, Zb, Vb, partA, Zf, Zg, Zh, Zi, Nat.reduceAdd, Nat.reduceLeDiff, Zk, Zm, Zn, Zo, Zp, Zq, binA, Yd, Vu, Vv, Yj, eq_self, c43_0, c43_1, c43_2, c43_3, c43_4, c43_5, c43_6, c43_7, c43_8, c43_9, c43_10, c43_11, c43_12, c43_13, c43_14, hlp3, hb3, d1, d2]
  refine RunV.to (right_ok (.mk fo fn fa fl) (by omega) hsane _ _ (DAtL.sub hg3 _ _ hFd)) ?_
  rw [hr]
  rcases hcase with ⟨rfl, rfl, rfl, hn1, hn2⟩ | ⟨rfl, rfl, rfl, rfl⟩ | ⟨hrule, rfl, _, hml, hms⟩
  · have q1 : ((([] : List Pf).length : Int) == 0) = true := rfl
    have q2 : ((n : Int) != 0) = true := by simp only [bne_iff_ne, ne_eq]; omega
    have d4' : ((([] : List (List Nat)).length : Int) != (([] : List Pf).length : Int)) = false := rfl
    simp -implicitDefEqProofs (maxDischargeDepth := 15) only [↓reduceIte, Yr, Ys, Yt, Yv, Yz, Wa, Wb, Wd, We, Wj, Wk, Wl, Wo, Wu, opA, Wv, Ww, Wx, Wy, Wz, Za, Zb, Vb, partA, Zg, Zh, Zi, Zk, Zl, Zq, Zr, binA, Yb, Yd, Vu, Vv, Yj, Yk, eq_self, hb3, hf3, q2, show decide (((0 : Nat) : Int) > 4) = false from rfl, show (((0 : Nat) : Int) == 0) = true from rfl]
    refine RunV.to (label_ok hn2 _) ?_
    simp -implicitDefEqProofs (maxDischargeDepth := 15) only [↓reduceIte, Yr, Ys, Yt, Wh, Wo, Wq, Wt, Wu, opA, Wv, Wx, Wy, Wz, Za, Zb, Vb, true_and, EndOk, resultA, oneOf, Zz, eq_self]
    exact ⟨by simpa [Pf.sizes] using hlp3, hK3⟩
  · have d4' : ((([] : List (List Nat)).length : Int) != (([] : List Pf).length : Int)) = false := rfl
    have r0 : (([63] : Str) == []) = false := rfl
    simp -implicitDefEqProofs (maxDischargeDepth := 15) only [↓reduceIte, Yr, Ys, Yt, Yv, Yz, Wa, Wd, Wh, Wj, Wk, Wl, Wo, Wq, Wt, Wu, opA, Wv, Ww, Wx, Wy, Wz, Za, Zb, Vb, partA, Zg, Zk, Zl, Zq, Zr, binA, true_and, EndOk, resultA, oneOf, Zz, Yb, Yd, Vu, Vv, Yj, Yk, eq_self, hb3, r0, show decide (((0 : Nat) : Int) > 4) = false from rfl, show (((0 : Nat) : Int) == 0) = true from rfl]
    exact ⟨by simpa [Pf.sizes] using hlp3, hK3⟩
  · have r0 : (r == []) = false := by rcases hrule with rfl | rfl | rfl <;> rfl
    have r1 : (r == [63]) = false := by rcases hrule with rfl | rfl | rfl <;> rfl
    simp -implicitDefEqProofs (maxDischargeDepth := 15) only [↓reduceIte, Yr, Ys, Yt, Yv, Wa, Wb, Wd, Wj, Wk, Wl, Wo, Wu, opA, Wv, Ww, Wx, Wy, Wz, Za, Zb, Vb, partA, Zh, Zi, Zk, Zl, Zq, Zr, binA, Yb, Yd, Vu, Vv, Yj, eq_self, hb3, d3, d4, r0, r1]
    refine RunV.to (rname_ok hrule _) ?_
    simp -implicitDefEqProofs (maxDischargeDepth := 15) only [↓reduceIte, Yr, Ys, Yt, Yv, Wa, Wd, Wg, Wj, Wk, Wl, Wm, Wo, Wr, Wu, opA, Wv, Ww, Wx, Wy, Wz, Za, Zb, Vb, partA, Zk, Zq, Zr, binA, Yb, Yd, Vu, Vv, Yj, eq_self, hb3, show (((0 : Nat) : Int) != 0) = false from rfl]
    show wpC RR Tryz.prog (.loop c43_24) _ _ _
    refine wp_loopK (fun ts σ' m => ∃ k : Nat, k + m = s.length ∧ σ'.get lp = some (.cells [.int .i64 ((left - 1 - Pf.sizes (s.take k) : Nat) : Int)] true) ∧ Kept (fun j => j = lp) σ3 σ' ∧
      FLive ts (.int .i64 d) (.ptr (some (lp, 0))) (.ptr (some (σ.next, 0))) (.ptr (some (fp, 0))) (.slice o3 s.length c3 z3) (.int .i64 s.length) (.int .i64 k)) s.length
      ⟨0, by omega, by simpa [Pf.sizes] using hlp3, Kept.refl hK3.wf, rfl, rfl, rfl, rfl, rfl, rfl, rfl, rfl⟩ ?_
    rintro m' ts σ' ⟨k, hkm, hlpk, hKk, hL⟩
    obtain ⟨a, rfl⟩ := hL.open
    by_cases hlt : k < s.length
    · obtain ⟨t, htk, htm⟩ := get_lt (l := s) (k := k) hlt
      obtain ⟨mk, hmk, hmm⟩ := get_lt (l := ms) (k := k) (by omega)
      have hgk := hKk.sub hfree hg3
      obtain ⟨rfl, ip, offp, csp, wp, rfl, hgp, hlp8, xsp, hxsp, hdp⟩ := hP.elem htk
      obtain ⟨rfl, im, offm, csm, wm, rfl, hgm, o', c', z', hcm, hIs⟩ := hM.elem hmk
      have hgp' := hgk _ _ hgp
      have hgm' := hgk _ _ hgm
      have hpl := hKk.wf.lt hgp'
      have hmll := hKk.wf.lt hgm'
      have hlplk := hKk.wf.lt hlpk
      have hne1 : σ.next ≠ lp := by omega
      have hbk := hKk.keep _ _ hne1 hb3
      have hfl3 : fp ≠ lp := by rintro rfl; rw [hf3] at hlp3; cases hlp3
      have hfk := hKk.keep _ _ hfl3 hf3
      have hbkl := hKk.wf.lt hbk
      have hfkl := hKk.wf.lt hfk
      obtain ⟨hml3, hmv⟩ := hms mk hmm
      obtain ⟨pr, pf, pn, psl, pm, ept⟩ := proof_is t
      obtain ⟨fo', fn', fa', fl', eft⟩ := form_is pf
      subst eft
      have hdp0 := hdp
      rw [ept] at hdp
      obtain ⟨p1, q1, y1, p2, q2, y2, p3, q3, y3, p4, q4, y4, rfl, _, _, _⟩ := Pf.cells hdp
      have e1 : (0 : Int) ≤ (k : Int) ∧ (k : Int) < (s.length : Int) := by omega
      have e2 : (0 : Int) ≤ (k : Int) ∧ (k : Int) < (ms.length : Int) := by omega
      have d5 : decide ((k : Int) < (s.length : Int)) = true := decide_eq_true (by omega)
      have d6 : decide ((mk.length : Int) > 3) = false := decide_eq_false (by omega)
      simp -implicitDefEqProofs (maxDischargeDepth := 15) only [↓reduceIte, Yr, Ys, Yt, Yv, Yz, Wb, Wd, We, Wg, Wj, Wk, Wl, Wm, Wo, opA, Wv, Ww, Wx, Wy, Wz, Va, Za, Zb, Zd, Ze, Vb, Vc, Vd, Ve, AV.cells, Vg, Vh, Vn, partA, Zf, Zg, Zh, Zi, Nat.reduceAdd, Zj, Zk, Zn, Zp, Zq, Zr, Zs, binA, putL, allOne, Zu, Zv, AV.one, Zy, and_self, Yf, Vu, Vv, Yj, eq_self, Yp, c43_15, c43_16, c43_17, c43_18, c43_19, c43_20, c43_21, c43_22, c43_23, c43_24, e1, e2, hgp', hlp8, hxsp, hbk, hbkl, hgm', hmll, hcm, d6, Nat.mul_one]
      refine RunV.to (containsFunc_ok hmx (sz := 1) (ld := none) rf_slices_ContainsFunc_int rf_slices_IndexFunc_int (xs := mk) (q := fun _ => false) rfl (by omega) hIs.2.1 fun j y hy => ?_) ?_
      · obtain ⟨rfl, ii, offi, csi, wi, rfl, hgi, hci⟩ := hIs.elem hy
        refine ⟨.int .i64 y, ⟨ii, offi, csi, wi, rfl, sub_push hKk.wf _ _ _ (hgk _ _ hgi), by simp only [partA, Nat.mul_one]; exact hci⟩, ?_⟩
        have hfk' := sub_push hKk.wf (.cells [.str pr, .int .u8 fo', .str fn', .slice p1 fa'.length q1 y1, .slice p2 fl'.length q2 y2, .int .i64 pn, .slice p3 psl.length q3 y3, .slice p4 pm.length q4 y4] true) _ _ hfk
        refine runF_intro hmx rf_describe_fitsS2 ?_
        simp -implicitDefEqProofs (maxDischargeDepth := 15) only [Yr, Ys, Yt, Wb, Wj, Wk, Wo, opA, Wv, Ww, Wx, Wy, Wz, Za, Zb, List.replicate, Zc, Zd, Vb, partA, Zf, Zg, Zh, Zi, Nat.reduceAdd, Nat.reduceSub, Zk, Zq, i_describe_fitsS2, c62_0, c62_1, c62_2, hfk']
        refine RunV.to (label_ok (hmv y (List.mem_of_getElem? hy)) _) ?_
        simp -implicitDefEqProofs (maxDischargeDepth := 15) only [Yr, Ys, Yt, Wh, Wo, Wu, opA, Wv, Wx, Wy, Wz, Za, Zb, Vb, and_self, EndOk, resultA, oneOf, Zz, Yb, eq_self]
      · have hany : mk.any (fun _ => false) = false := by simp
        rw [hany]
        have w2 : wrapF .i64 ((d : Int) + 1) = ((d + 1 : Nat) : Int) := by rw [wrap_i64 (by omega)]; rfl
        simp -implicitDefEqProofs (maxDischargeDepth := 15) only [↓reduceIte, Ys, Yt, Yv, Wb, Wd, We, Wu, opA, Wv, Ww, Wx, Wy, Wz, Za, Zb, Vb, Vg, partA, Zf, Zg, Zh, Zi, Nat.reduceAdd, Zj, Zk, Zm, Zo, Zt, binA, Yd, Vu, Vv, Yj, eq_self, w2]
        have hh := phighs_mem htm
        have hsz := sizes_take_le htk
        have hts : t.size ≤ Pf.sizes s := psize_mem htm
        rw [← ept] at *
        refine (ih t.size (by omega) t (Nat.le_refl _) (pfits_all.1 hsub t htm) (d + 1) (left - 1 - Pf.sizes (s.take k)) (by omega) (by omega) (by omega) _ g _ (sub_push hKk.wf _ _ _ hlpk) (hgk.trans (sub_push hKk.wf _)) hgl hdp0).mono ?_
        rintro u σ9 ⟨rfl, hlp9, hK9⟩
        have w6 : wrapF .i64 ((k : Int) + 1) = ((k + 1 : Nat) : Int) := by rw [wrap_i64 (by omega)]; rfl
        simp -implicitDefEqProofs (maxDischargeDepth := 15) only [↓reduceIte, Yr, Ys, Yt, Yv, Wa, Wd, Wg, Wj, Wl, Wo, Wr, Wu, opA, Wv, Ww, Wx, Wy, Wz, Za, Zb, Vb, binA, Yb, Yd, Vu, Vv, Yj, eq_self, w6, lk_n]
        refine ⟨m' - 1, by omega, k + 1, by omega, ?_, (hKk.push _).trans hK9, rfl, rfl, rfl, rfl, rfl, rfl, rfl, rfl⟩
        rw [hlp9, sizes_take htk]
        congr 4
        omega
    · have d5 : decide ((k : Int) < (s.length : Int)) = false := decide_eq_false (by omega)
      have htk : s.take k = s := List.take_of_length_le (by omega)
      rw [htk] at hlpk
      simp -implicitDefEqProofs (maxDischargeDepth := 15) only [↓reduceIte, Yr, Ys, Yt, Wa, Wh, Wi, Wj, Wk, Wl, Wo, Wp, Ws, opA, Wv, Ww, Wx, Wy, Wz, Za, Zb, Vb, binA, true_and, EndOk, resultA, oneOf, Zz, eq_self, c43_15, c43_16, c43_17, c43_18, c43_19, c43_20, c43_21, c43_22, c43_23, c43_24, d5, lk_e]
      refine ⟨?_, hK3.trans hKk⟩
      rw [hlpk]
      congr 4
      omega
theorem whole_ok {p : Pf} (hfit : p.fit) (hsz : p.size ≤ 40) (σ : AState) (xs : List AV) (hD : DAtL σ.get p.dv xs) : RunF RR Tryz.prog n_describe_whole [.agg xs] σ (fun u σ' => u = .bool true ∧ σ' = σ) := by
  refine RunV.wf fun hW => RunV.forget rfl ?_
  refine runF_intro hmx rf_describe_whole ?_
  have hl8 : 8 ≤ xs.length := by rw [hD.length, Pf.dv_len]; omega
  have ht8 : xs.take 8 = xs := List.take_of_length_le (by rw [hD.length, Pf.dv_len]; omega)
  have hh := Pf.high_size p
  simp -implicitDefEqProofs (maxDischargeDepth := 15) only [↓reduceIte, Yr, Ys, Yt, Wb, Wj, Wk, Wo, opA, Wv, Ww, Wx, Wy, Wz, Va, Za, Zb, List.replicate, Zc, Zd, Ze, Vb, Vc, Vd, Ve, AV.cells, Vg, Vh, Vi, Vn, partA, Zf, Zg, Zh, Zi, Nat.reduceSub, Zj, Zk, Zm, Zn, Zp, Zs, putL, allOne, Zu, Zv, AV.one, Zy, and_self, eq_self, i_describe_whole, c79_0, c79_1, c79_2, c79_3, hl8, ht8]
  have hnone : σ.get (σ.push (.cells xs true)).next = none := hW _ (by simp only [AState.push_next]; omega)
  refine (pfits_ok (lp := (σ.push (.cells xs true)).next) p.size p (Nat.le_refl _) hfit 0 300 (by omega) (by omega) (by omega) _ σ.get xs Vg ((sub_push hW _).trans (sub_push (hW.push _) _)) hnone hD).mono ?_
  rintro u σ9 ⟨rfl, _, hK9⟩
  simp -implicitDefEqProofs (maxDischargeDepth := 15) only [Yr, Ys, Yt, Wh, Wo, Wu, opA, Wv, Wx, Wy, Wz, Za, Zb, Vb, true_and, EndOk, resultA, oneOf, Zz, eq_self]
  intro i b e
  have := hW.lt e
  exact hK9.keep i b (by simp only [AState.push_next]; omega) (sub_push (hW.push _) _ i b (sub_push hW _ i b e))
end Go.Am
namespace Go.Am
open Go.RowKit Go.Proofs Do
set_option maxRecDepth 100000
abbrev pow10L : List AV := [.int .u64 1, .int .u64 10, .int .u64 100, .int .u64 1000, .int .u64 10000, .int .u64 100000, .int .u64 1000000, .int .u64 10000000, .int .u64 100000000, .int .u64 1000000000, .int .u64 10000000000, .int .u64 100000000000, .int .u64 1000000000000, .int .u64 10000000000000, .int .u64 100000000000000, .int .u64 1000000000000000, .int .u64 10000000000000000, .int .u64 100000000000000000, .int .u64 1000000000000000000, .int .u64 10000000000000000000]
theorem len8_all : ((List.range 256).all fun n => ([0, 1, 2, 2, 3, 3, 3, 3, 4, 4, 4, 4, 4, 4, 4, 4, 5, 5, 5, 5, 5, 5, 5, 5, 5, 5, 5, 5, 5, 5, 5, 5, 6, 6, 6, 6, 6, 6, 6, 6, 6, 6, 6, 6, 6, 6, 6, 6, 6, 6, 6, 6, 6, 6, 6, 6, 6, 6, 6, 6, 6, 6, 6, 6, 7, 7, 7, 7, 7, 7, 7, 7, 7, 7, 7, 7, 7, 7, 7, 7, 7, 7, 7, 7, 7, 7, 7, 7, 7, 7, 7, 7, 7, 7, 7, 7, 7, 7, 7, 7, 7, 7, 7, 7, 7, 7, 7, 7, 7, 7, 7, 7, 7, 7, 7, 7, 7, 7, 7, 7, 7, 7, 7, 7, 7, 7, 7, 7, 8, 8, 8, 8, 8, 8, 8, 8, 8, 8, 8, 8, 8, 8, 8, 8, 8, 8, 8, 8, 8, 8, 8, 8, 8, 8, 8, 8, 8, 8, 8, 8, 8, 8, 8, 8, 8, 8, 8, 8, 8, 8, 8, 8, 8, 8, 8, 8, 8, 8, 8, 8, 8, 8, 8, 8, 8, 8, 8, 8, 8, 8, 8, 8, 8, 8, 8, 8, 8, 8, 8, 8, 8, 8, 8, 8, 8, 8, 8, 8, 8, 8, 8, 8, 8, 8, 8, 8, 8, 8, 8, 8, 8, 8, 8, 8, 8, 8, 8, 8, 8, 8, 8, 8, 8, 8, 8, 8, 8, 8, 8, 8, 8, 8, 8, 8, 8, 8, 8, 8, 8, 8, 8, 8, 8, 8, 8, 8] : List UInt8)[n]? == some (if n = 0 then 0 else if n < 2 then 1 else if n < 4 then 2 else if n < 8 then 3 else if n < 16 then 4 else if n < 32 then 5 else if n < 64 then 6 else if n < 128 then 7 else 8)) = true := by kernel_rfl
theorem len8_at {n : Nat} (h : n < 256) : ([0, 1, 2, 2, 3, 3, 3, 3, 4, 4, 4, 4, 4, 4, 4, 4, 5, 5, 5, 5, 5, 5, 5, 5, 5, 5, 5, 5, 5, 5, 5, 5, 6, 6, 6, 6, 6, 6, 6, 6, 6, 6, 6, 6, 6, 6, 6, 6, 6, 6, 6, 6, 6, 6, 6, 6, 6, 6, 6, 6, 6, 6, 6, 6, 7, 7, 7, 7, 7, 7, 7, 7, 7, 7, 7, 7, 7, 7, 7, 7, 7, 7, 7, 7, 7, 7, 7, 7, 7, 7, 7, 7, 7, 7, 7, 7, 7, 7, 7, 7, 7, 7, 7, 7, 7, 7, 7, 7, 7, 7, 7, 7, 7, 7, 7, 7, 7, 7, 7, 7, 7, 7, 7, 7, 7, 7, 7, 7, 8, 8, 8, 8, 8, 8, 8, 8, 8, 8, 8, 8, 8, 8, 8, 8, 8, 8, 8, 8, 8, 8, 8, 8, 8, 8, 8, 8, 8, 8, 8, 8, 8, 8, 8, 8, 8, 8, 8, 8, 8, 8, 8, 8, 8, 8, 8, 8, 8, 8, 8, 8, 8, 8, 8, 8, 8, 8, 8, 8, 8, 8, 8, 8, 8, 8, 8, 8, 8, 8, 8, 8, 8, 8, 8, 8, 8, 8, 8, 8, 8, 8, 8, 8, 8, 8, 8, 8, 8, 8, 8, 8, 8, 8, 8, 8, 8, 8, 8, 8, 8, 8, 8, 8, 8, 8, 8, 8, 8, 8, 8, 8, 8, 8, 8, 8, 8, 8, 8, 8, 8, 8, 8, 8, 8, 8, 8, 8] : List UInt8)[n]? = some (if n = 0 then 0 else if n < 2 then 1 else if n < 4 then 2 else if n < 8 then 3 else if n < 16 then 4 else if n < 32 then 5 else if n < 64 then 6 else if n < 128 then 7 else 8) :=
  eq_of_beq (List.all_eq_true.1 len8_all n (by simpa using h))
theorem small_all : ((List.range 100).all fun n => ([48, 48, 48, 49, 48, 50, 48, 51, 48, 52, 48, 53, 48, 54, 48, 55, 48, 56, 48, 57, 49, 48, 49, 49, 49, 50, 49, 51, 49, 52, 49, 53, 49, 54, 49, 55, 49, 56, 49, 57, 50, 48, 50, 49, 50, 50, 50, 51, 50, 52, 50, 53, 50, 54, 50, 55, 50, 56, 50, 57, 51, 48, 51, 49, 51, 50, 51, 51, 51, 52, 51, 53, 51, 54, 51, 55, 51, 56, 51, 57, 52, 48, 52, 49, 52, 50, 52, 51, 52, 52, 52, 53, 52, 54, 52, 55, 52, 56, 52, 57, 53, 48, 53, 49, 53, 50, 53, 51, 53, 52, 53, 53, 53, 54, 53, 55, 53, 56, 53, 57, 54, 48, 54, 49, 54, 50, 54, 51, 54, 52, 54, 53, 54, 54, 54, 55, 54, 56, 54, 57, 55, 48, 55, 49, 55, 50, 55, 51, 55, 52, 55, 53, 55, 54, 55, 55, 55, 56, 55, 57, 56, 48, 56, 49, 56, 50, 56, 51, 56, 52, 56, 53, 56, 54, 56, 55, 56, 56, 56, 57, 57, 48, 57, 49, 57, 50, 57, 51, 57, 52, 57, 53, 57, 54, 57, 55, 57, 56, 57, 57] : List UInt8)[n * 2]? == some (UInt8.ofNat (48 + n / 10)) && ([48, 48, 48, 49, 48, 50, 48, 51, 48, 52, 48, 53, 48, 54, 48, 55, 48, 56, 48, 57, 49, 48, 49, 49, 49, 50, 49, 51, 49, 52, 49, 53, 49, 54, 49, 55, 49, 56, 49, 57, 50, 48, 50, 49, 50, 50, 50, 51, 50, 52, 50, 53, 50, 54, 50, 55, 50, 56, 50, 57, 51, 48, 51, 49, 51, 50, 51, 51, 51, 52, 51, 53, 51, 54, 51, 55, 51, 56, 51, 57, 52, 48, 52, 49, 52, 50, 52, 51, 52, 52, 52, 53, 52, 54, 52, 55, 52, 56, 52, 57, 53, 48, 53, 49, 53, 50, 53, 51, 53, 52, 53, 53, 53, 54, 53, 55, 53, 56, 53, 57, 54, 48, 54, 49, 54, 50, 54, 51, 54, 52, 54, 53, 54, 54, 54, 55, 54, 56, 54, 57, 55, 48, 55, 49, 55, 50, 55, 51, 55, 52, 55, 53, 55, 54, 55, 55, 55, 56, 55, 57, 56, 48, 56, 49, 56, 50, 56, 51, 56, 52, 56, 53, 56, 54, 56, 55, 56, 56, 56, 57, 57, 48, 57, 49, 57, 50, 57, 51, 57, 52, 57, 53, 57, 54, 57, 55, 57, 56, 57, 57] : List UInt8)[n * 2 + 1]? == some (UInt8.ofNat (48 + n % 10))) = true := by kernel_rfl
theorem small_at {n : Nat} (h : n < 100) : ([48, 48, 48, 49, 48, 50, 48, 51, 48, 52, 48, 53, 48, 54, 48, 55, 48, 56, 48, 57, 49, 48, 49, 49, 49, 50, 49, 51, 49, 52, 49, 53, 49, 54, 49, 55, 49, 56, 49, 57, 50, 48, 50, 49, 50, 50, 50, 51, 50, 52, 50, 53, 50, 54, 50, 55, 50, 56, 50, 57, 51, 48, 51, 49, 51, 50, 51, 51, 51, 52, 51, 53, 51, 54, 51, 55, 51, 56, 51, 57, 52, 48, 52, 49, 52, 50, 52, 51, 52, 52, 52, 53, 52, 54, 52, 55, 52, 56, 52, 57, 53, 48, 53, 49, 53, 50, 53, 51, 53, 52, 53, 53, 53, 54, 53, 55, 53, 56, 53, 57, 54, 48, 54, 49, 54, 50, 54, 51, 54, 52, 54, 53, 54, 54, 54, 55, 54, 56, 54, 57, 55, 48, 55, 49, 55, 50, 55, 51, 55, 52, 55, 53, 55, 54, 55, 55, 55, 56, 55, 57, 56, 48, 56, 49, 56, 50, 56, 51, 56, 52, 56, 53, 56, 54, 56, 55, 56, 56, 56, 57, 57, 48, 57, 49, 57, 50, 57, 51, 57, 52, 57, 53, 57, 54, 57, 55, 57, 56, 57, 57] : List UInt8)[n * 2]? = some (UInt8.ofNat (48 + n / 10)) ∧ ([48, 48, 48, 49, 48, 50, 48, 51, 48, 52, 48, 53, 48, 54, 48, 55, 48, 56, 48, 57, 49, 48, 49, 49, 49, 50, 49, 51, 49, 52, 49, 53, 49, 54, 49, 55, 49, 56, 49, 57, 50, 48, 50, 49, 50, 50, 50, 51, 50, 52, 50, 53, 50, 54, 50, 55, 50, 56, 50, 57, 51, 48, 51, 49, 51, 50, 51, 51, 51, 52, 51, 53, 51, 54, 51, 55, 51, 56, 51, 57, 52, 48, 52, 49, 52, 50, 52, 51, 52, 52, 52, 53, 52, 54, 52, 55, 52, 56, 52, 57, 53, 48, 53, 49, 53, 50, 53, 51, 53, 52, 53, 53, 53, 54, 53, 55, 53, 56, 53, 57, 54, 48, 54, 49, 54, 50, 54, 51, 54, 52, 54, 53, 54, 54, 54, 55, 54, 56, 54, 57, 55, 48, 55, 49, 55, 50, 55, 51, 55, 52, 55, 53, 55, 54, 55, 55, 55, 56, 55, 57, 56, 48, 56, 49, 56, 50, 56, 51, 56, 52, 56, 53, 56, 54, 56, 55, 56, 56, 56, 57, 57, 48, 57, 49, 57, 50, 57, 51, 57, 52, 57, 53, 57, 54, 57, 55, 57, 56, 57, 57] : List UInt8)[n * 2 + 1]? = some (UInt8.ofNat (48 + n % 10)) := by
  have := List.all_eq_true.1 small_all n (by simpa using h)
  simp only [Bool.and_eq_true] at this
  exact ⟨eq_of_beq this.1, eq_of_beq this.2⟩
theorem wrap_u64 {n : Int} (h : 0 ≤ n ∧ n ≤ 18446744073709551615) : wrapF .u64 n = n := by
  rw [wrapF_eq, IntKind.wrap_u64]; omega
theorem wrap_u32 {n : Int} (h : 0 ≤ n ∧ n ≤ 4294967295) : wrapF .u32 n = n := by
  rw [wrapF_eq, IntKind.wrap_u32]; omega
def lenB (n : Nat) : Nat := if n < 128 then 7 else if n < 256 then 8 else if n < 512 then 9 else 10
theorem len64_ok {n : Nat} (h1 : 100 ≤ n) (h2 : n < 1000) (σ : AState) : RunF RR Tryz.prog n_bits_Len64 [.int .u64 n] σ (fun u σ' => u = .int .i64 (lenB n) ∧ σ' = σ) := by
  refine runF_intro hmx rf_bits_Len64 ?_
  have d1 : decide ((n : Int) ≥ 4294967296) = false := decide_eq_false (by omega)
  have d2 : decide ((n : Int) ≥ 65536) = false := decide_eq_false (by omega)
  by_cases h3 : n < 256
  · have d3 : decide ((n : Int) ≥ 256) = false := decide_eq_false (by omega)
    have w1 : wrapF .u8 (n : Int) = (n : Int) := wrap_u8 (by omega)
    have hat := len8_at h3
    simp -implicitDefEqProofs (maxDischargeDepth := 15) only [↓reduceIte, Yr, Ys, Yt, Wa, Wg, Wh, Wj, Wk, Wl, Wo, opA, Wv, Ww, Wx, Wy, Wz, Za, Zb, List.replicate, Zc, Zd, Ze, Vb, Zf, Zg, Nat.reduceSub, Zk, binA, and_true, EndOk, resultA, oneOf, Zz, Yf, Yg, eq_self, i_bits_Len64, c25_0, c25_1, c25_2, c25_3, c25_4, c25_5, c25_6, c25_7, c25_8, c25_9, c25_10, c25_11, c25_12, c25_13, d1, d2, d3, w1, hat]
    unfold lenB
    by_cases h4 : n < 128
    · rw [if_neg (by omega), if_neg (by omega), if_neg (by omega), if_neg (by omega), if_neg (by omega), if_neg (by omega), if_neg (by omega), if_pos h4, if_pos h4]; rfl
    · rw [if_neg (by omega), if_neg (by omega), if_neg (by omega), if_neg (by omega), if_neg (by omega), if_neg (by omega), if_neg (by omega), if_neg h4, if_neg h4, if_pos h3]; rfl
  · have d3 : decide ((n : Int) ≥ 256) = true := decide_eq_true (by omega)
    have hs : (n : Int).fdiv (2 ^ (min (8 : Int).toNat IntKind.u64.bits)) = ((n / 256 : Nat) : Int) := by
      rw [show (2 : Int) ^ (min (8 : Int).toNat IntKind.u64.bits) = ((256 : Nat) : Int) from rfl, Int.fdiv_eq_ediv_of_nonneg _ (by omega)]; rfl
    have w1 : wrapF .u8 ((n / 256 : Nat) : Int) = ((n / 256 : Nat) : Int) := wrap_u8 (by omega)
    have hat := len8_at (n := n / 256) (by omega)
    have g0 : (0 : Int) ≤ 8 := by decide
    simp -implicitDefEqProofs (maxDischargeDepth := 15) only [↓reduceIte, Yr, Ys, Yt, Yz, Wa, Wg, Wh, Wj, Wk, Wl, Wo, opA, Wv, Ww, Wx, Wy, Wz, Za, Zb, List.replicate, Zc, Zd, Ze, Vb, Zf, Zg, Nat.reduceSub, Zk, binA, and_true, EndOk, resultA, oneOf, Zz, Yf, Yg, eq_self, i_bits_Len64, c25_0, c25_1, c25_2, c25_3, c25_4, c25_5, c25_6, c25_7, c25_8, c25_9, c25_10, c25_11, c25_12, c25_13, d1, d2, d3, hs, g0, w1, hat]
    have : n / 256 = 1 ∨ n / 256 = 2 ∨ n / 256 = 3 := by omega
    rcases this with e | e | e
    · rw [e, show lenB n = 9 by unfold lenB; rw [if_neg (by omega), if_neg (by omega), if_pos (by omega)]]; rfl
    · rw [e, show lenB n = 10 by unfold lenB; rw [if_neg (by omega), if_neg (by omega), if_neg (by omega)]]; rfl
    · rw [e, show lenB n = 10 by unfold lenB; rw [if_neg (by omega), if_neg (by omega), if_neg (by omega)]]; rfl
theorem log10_ev : ((List.range 11).all fun n => match evA n_istrconv_log10Pow2 [.int .i64 n] with | some (.int .i64 m, _) => m == (if n < 4 then 0 else if n < 7 then 1 else if n < 10 then 2 else 3) | _ => false) = true := by kernel_rfl
theorem log10_ok {n : Nat} (hn : n < 11) (σ : AState) : RunF RR Tryz.prog n_istrconv_log10Pow2 [.int .i64 n] σ (fun u σ' => u = .int .i64 (if n < 4 then 0 else if n < 7 then 1 else if n < 10 then 2 else 3) ∧ σ' = σ) := by
  have h := List.all_eq_true.1 log10_ev n (by simpa using hn)
  split at h
  · rename_i m τ e; rw [← eq_of_beq h]; exact evA_ok rfl rfl e σ
  · cases h
theorem bool2_ok (b : Bool) (σ : AState) : RunF RR Tryz.prog n_istrconv_bool2_int [.bool b] σ (fun u σ' => u = .int .i64 (if b then 1 else 0) ∧ σ' = σ) := by
  refine runF_intro hmx rf_istrconv_bool2_int ?_
  cases b
  · simp -implicitDefEqProofs (maxDischargeDepth := 15) only [↓reduceIte, Yr, Ys, Yt, Wa, Wg, Wh, Wj, Wk, Wl, Wo, opA, Wv, Ww, Wx, Wy, Wz, Za, Zb, List.replicate, Zc, Zd, Ze, Vb, Zf, Zg, Nat.reduceSub, Zk, and_self, EndOk, resultA, oneOf, Zz, Yd, eq_self, i_istrconv_bool2_int, c80_0, c80_1, c80_2, c80_3, c80_4]
  · simp -implicitDefEqProofs (maxDischargeDepth := 15) only [↓reduceIte, Yr, Ys, Yt, Yz, Wh, Wj, Wk, Wl, Wo, Wq, opA, Wv, Ww, Wx, Wy, Wz, Za, Zb, List.replicate, Zc, Zd, Ze, Vb, Zf, Zg, Nat.reduceSub, Zk, and_self, EndOk, resultA, oneOf, Zz, eq_self, i_istrconv_bool2_int, c80_0, c80_1, c80_2, c80_3, c80_4]
theorem numDigits_ok {n : Nat} (h1 : 100 ≤ n) (h2 : n < 1000) {σ : AState} {w : Bool} (hg : σ.get 3 = some (.cells pow10L w)) : RunF RR Tryz.prog n_istrconv_numDigits [.int .u64 n] σ (fun u σ' => u = .int .i64 3 ∧ σ' = σ) := by
  refine runF_intro hmx rf_istrconv_numDigits ?_
  simp -implicitDefEqProofs (maxDischargeDepth := 15) only [Yr, Ys, Yt, Wb, Wj, Wk, Wo, opA, Wv, Ww, Wx, Wy, Wz, Za, Zb, List.replicate, Zc, Zd, Ze, Vb, Zf, Zg, Zh, Zi, Nat.reduceSub, Zk, i_istrconv_numDigits, c31_0, c31_1, c31_2, c31_3, c31_4, c31_5]
  refine RunV.to (len64_ok h1 h2 _) ?_
  simp -implicitDefEqProofs (maxDischargeDepth := 15) only [Wb, Wu, Wv, Ww, Wx, Wy, Wz, Za, Zb, Zh, Zi]
  have hL : lenB n < 11 := by unfold lenB; repeat' split
                              all_goals omega
  refine RunV.to (log10_ok hL _) ?_
  have h3 : (n < 512 ∧ (if lenB n < 4 then 0 else if lenB n < 7 then 1 else if lenB n < 10 then 2 else 3 : Int) = 2) ∨ (512 ≤ n ∧ (if lenB n < 4 then 0 else if lenB n < 7 then 1 else if lenB n < 10 then 2 else 3 : Int) = 3) := by
    by_cases h : n < 512
    · refine .inl ⟨h, ?_⟩
      have : lenB n = 7 ∨ lenB n = 8 ∨ lenB n = 9 := by
        unfold lenB
        by_cases q1 : n < 128
        · rw [if_pos q1]; exact .inl rfl
        · rw [if_neg q1]
          by_cases q2 : n < 256
          · rw [if_pos q2]; exact .inr (.inl rfl)
          · rw [if_neg q2, if_pos h]; exact .inr (.inr rfl)
      rcases this with e | e | e <;> rw [e] <;> rfl
    · refine .inr ⟨by omega, ?_⟩
      rw [show lenB n = 10 by unfold lenB; rw [if_neg (by omega), if_neg (by omega), if_neg h]]; rfl
  have e2 : (0 : Int) ≤ 2 ∧ (2 : Int) < ((20 : Nat) : Int) := by omega
  have e3 : (0 : Int) ≤ 3 ∧ (3 : Int) < ((20 : Nat) : Int) := by omega
  rcases h3 with ⟨h, e⟩ | ⟨h, e⟩
  · rw [e]
    have d : decide ((n : Int) ≥ 100) = true := decide_eq_true (by omega)
    simp -implicitDefEqProofs (maxDischargeDepth := 15) only [↓reduceIte, Yr, Ys, Yt, Wb, Wj, Wk, Wo, Wu, opA, Wv, Ww, Wx, Wy, Wz, Za, Zb, Vb, partA, Zh, Zi, Zk, Zq, Zr, binA, and_self, eq_self, ev_g, e2, hg, d, show (2 : Int).toNat = 2 from rfl, Nat.mul_one]
    refine RunV.to (bool2_ok true _) ?_
    simp -implicitDefEqProofs (maxDischargeDepth := 15) only [↓reduceIte, Yr, Ys, Yt, Wh, Wo, Wu, opA, Wv, Wx, Wy, Wz, Za, Zb, Vb, binA, and_self, EndOk, resultA, oneOf, Zz, eq_self, show wrapF .i64 ((2 : Int) + 1) = 3 from rfl]
  · rw [e]
    have d : decide ((n : Int) ≥ 1000) = false := decide_eq_false (by omega)
    simp -implicitDefEqProofs (maxDischargeDepth := 15) only [↓reduceIte, Yr, Ys, Yt, Wb, Wj, Wk, Wo, Wu, opA, Wv, Ww, Wx, Wy, Wz, Za, Zb, Vb, partA, Zh, Zi, Zk, Zq, Zr, binA, and_self, eq_self, ev_g, e3, hg, d, show (3 : Int).toNat = 3 from rfl, Nat.mul_one]
    refine RunV.to (bool2_ok false _) ?_
    simp -implicitDefEqProofs (maxDischargeDepth := 15) only [↓reduceIte, Yr, Ys, Yt, Wh, Wo, Wu, opA, Wv, Wx, Wy, Wz, Za, Zb, Vb, binA, and_self, EndOk, resultA, oneOf, Zz, Yd, eq_self, show wrapF .i64 ((3 : Int) + 0) = 3 from rfl]
abbrev z8 : AV := .int .u8 0
set_option maxHeartbeats 4000000 in
theorem base10_ok {n b : Nat} {c : Option Nat} (h1 : 100 ≤ n) (h2 : n < 1000) {σ : AState} (hW : σ.Wf) (hg : σ.get b = some (.cells [z8, z8, z8, z8, z8, z8, z8, z8, z8, z8, z8, z8, z8, z8, z8, z8, z8, z8, z8, z8, z8, z8, z8, z8] true)) :
    RunF RR Tryz.prog n_istrconv_formatBase10 [.slice (some (b, 1)) 3 c 1, .int .u64 n] σ (fun u σ' => σ'.get b = some (.cells [z8, .int .u8 ((48 + n / 100 : Nat) : Int), .int .u8 ((UInt8.ofNat (48 + n % 100 / 10)).toNat : Int), .int .u8 ((UInt8.ofNat (48 + n % 100 % 10)).toNat : Int), z8, z8, z8, z8, z8, z8, z8, z8, z8, z8, z8, z8, z8, z8, z8, z8, z8, z8, z8, z8] true) ∧ Kept (fun j => j = b) σ σ') := by
  refine runF_intro hmx rf_istrconv_formatBase10 ?_
  have hbl := hW.lt hg
  simp -implicitDefEqProofs (maxDischargeDepth := 15) only [Yr, Ys, Yt, Wj, Wk, Wm, Wo, opA, Wv, Wx, Wy, Wz, Za, Zb, List.replicate, Zc, Zd, Ze, Vb, Zf, Zg, Nat.reduceAdd, Nat.reduceSub, Zk, i_istrconv_formatBase10, c0_14, c0_15, c0_16, c0_17, c0_18, c0_19, c0_20, c0_21, c0_22, c0_23, c0_24, c0_25, c0_26, c0_27, c0_28, c0_29, c0_30, c0_31, c0_32, c0_33]
  refine wp_unroll ?_
  have w1 : wrapF .u32 (n : Int) = (n : Int) := wrap_u32 (by omega)
  have m1 : (n : Int).tmod 100 = ((n % 100 : Nat) : Int) := tmodN n 100
  have z1 : ((100 : Int) = 0) = False := by simp
  have w2 : wrapF .u32 (((n % 100 : Nat) : Int) * 2) = ((n % 100 * 2 : Nat) : Int) := by rw [wrap_u32 (by omega)]; omega
  have w3 : wrapF .u32 ((n : Int).tdiv 100) = ((n / 100 : Nat) : Int) := by rw [show (100 : Int) = ((100 : Nat) : Int) from rfl, tdivN, wrap_u32 (by omega)]
  have w4 : wrapF .u32 (((n % 100 * 2 : Nat) : Int) + 1) = ((n % 100 * 2 + 1 : Nat) : Int) := by rw [wrap_u32 (by omega)]; omega
  have w5 : wrapF .u32 (48 + ((n / 100 : Nat) : Int)) = ((48 + n / 100 : Nat) : Int) := by rw [wrap_u32 (by omega)]; omega
  have w6 : wrapF .u8 ((48 + n / 100 : Nat) : Int) = ((48 + n / 100 : Nat) : Int) := wrap_u8 (by omega)
  have a1 : wrapF .i64 (((3 : Nat) : Int) - 1) = 2 := rfl
  have a2 : wrapF .i64 (((3 : Nat) : Int) - 2) = 1 := rfl
  have a3 : (0 : Int) ≤ 2 ∧ (2 : Int) < ((3 : Nat) : Int) := by omega
  have a4 : (0 : Int) ≤ 1 ∧ (1 : Int) < ((3 : Nat) : Int) := by omega
  have a5 : (0 : Int) ≤ 0 ∧ (0 : Int) < ((3 : Nat) : Int) := by omega
  have hlt : n % 100 < 100 := Nat.mod_lt _ (by omega)
  have s1 := (small_at hlt).1
  have s2 := (small_at hlt).2
  simp -implicitDefEqProofs (maxDischargeDepth := 15) only [↓reduceIte, Yr, Ys, Yt, Yz, Wa, Wg, Wi, Wj, Wk, Wl, Wo, Wp, Wq, Ws, Wt, opA, Wv, Ww, Wx, Wy, Wz, Va, Za, Zb, Zc, Zd, Vb, Vc, Ve, AV.cells, Vk, Zf, Zg, Nat.reduceAdd, Nat.reduceLeDiff, Zk, Zl, Zm, Zn, Zo, Zp, binA, putL, allOne, Zu, Zv, AV.one, Zy, and_self, true_and, EndOk, resultA, Yf, Yg, eq_self, Ym, c0_0, c0_1, c0_2, c0_3, c0_4, c0_5, c0_6, c0_7, c0_8, c0_9, c0_10, c0_11, c0_12, show decide (((3 : Nat) : Int) ≥ 8) = false from rfl, show decide (((3 : Nat) : Int) ≥ 4) = false from rfl, show decide (((3 : Nat) : Int) ≥ 2) = true from rfl, show decide ((1 : Int) > 0) = true from rfl, show (2 : Int).toNat = 2 from rfl, show (1 : Int).toNat = 1 from rfl, w1, m1, z1, w2, w3, w4, s1, s2, w5, w6, a1, a2, a3, a4, a5, hg, Nat.mul_one]
  exact (((Kept.refl hW).set (Own := fun j => j = b) rfl hbl _).set (Own := fun j => j = b) rfl hbl _).set (Own := fun j => j = b) rfl hbl _
theorem itoa100_ev : ((List.range 100).all fun n => isStr (numS n) (evA n_strconv_Itoa [.int .i64 n])) = true := by kernel_rfl
theorem u8_back (n : Nat) : UInt8.ofNat (((UInt8.ofNat n).toNat : Int)).toNat = UInt8.ofNat n := by rw [Int.toNat_natCast, UInt8.ofNat_toNat]
set_option maxHeartbeats 4000000 in
theorem itoaN_ok {n : Nat} (hn : n < 1000) {σ : AState} {w : Bool} (hg : σ.get 3 = some (.cells pow10L w)) : RunF RR Tryz.prog n_strconv_Itoa [.int .i64 n] σ (fun u σ' => u = .str (numS n) ∧ σ' = σ) := by
  by_cases h : n < 100
  · obtain ⟨τ, h⟩ := isStr_ok (List.all_eq_true.1 itoa100_ev n (by simpa using h))
    exact evA_ok rfl rfl h σ
  refine RunV.wf fun hW => RunV.forget rfl ?_
  refine runF_intro hmx rf_strconv_Itoa ?_
  simp -implicitDefEqProofs (maxDischargeDepth := 15) only [Yr, Ys, Yt, Wb, Wj, Wk, Wo, opA, Wv, Ww, Wx, Wy, Wz, Za, Zb, List.replicate, Zc, Zd, Ze, Vb, Zf, Zg, Zh, Zi, Nat.reduceSub, Zk, i_strconv_Itoa, c18_0, c18_1, c18_2]
  have key : RunF RR Tryz.prog n_istrconv_Itoa [.int .i64 n] σ (fun u σ' => u = .str (numS n) ∧ Sub σ.get σ'.get) := by
    refine runF_intro hmx rf_istrconv_Itoa ?_
    simp -implicitDefEqProofs (maxDischargeDepth := 15) only [Yr, Ys, Yt, Wb, Wj, Wk, Wo, opA, Wv, Ww, Wx, Wy, Wz, Za, Zb, List.replicate, Zc, Zd, Ze, Vb, Zf, Zg, Zh, Zi, Nat.reduceSub, Zk, i_istrconv_Itoa, c65_0, c65_1, c65_2]
    have key2 : RunF RR Tryz.prog n_istrconv_FormatInt [.int .i64 n, .int .i64 10] σ (fun u σ' => u = .str (numS n) ∧ Sub σ.get σ'.get) := by
      refine runF_intro hmx rf_istrconv_FormatInt ?_
      have d1 : decide ((0 : Int) ≤ (n : Int)) = true := decide_eq_true (by omega)
      have d2 : decide ((n : Int) < 100) = false := decide_eq_false (by omega)
      have d3 : decide ((n : Int) < 0) = false := decide_eq_false (by omega)
      have w1 : wrapF .u64 (n : Int) = (n : Int) := wrap_u64 (by omega)
      have hWp := hW.push (.cells [z8, z8, z8, z8, z8, z8, z8, z8, z8, z8, z8, z8, z8, z8, z8, z8, z8, z8, z8, z8, z8, z8, z8, z8] true)
      simp -implicitDefEqProofs (maxDischargeDepth := 15) only [↓reduceIte, Yr, Ys, Yt, Yv, Yz, Wa, Wb, Wd, Wg, Wj, Wk, Wl, Wo, opA, Wv, Ww, Wx, Wy, Wz, Za, Zb, List.replicate, Zc, Zd, Ze, Vb, Vc, Vd, Zf, Zg, Zh, Zi, Nat.reduceAdd, Nat.reduceSub, Zk, binA, Yg, Vu, Vv, Yj, eq_self, Yp, i_istrconv_FormatInt, c70_0, c70_1, c70_2, c70_3, c70_4, c70_5, c70_6, c70_7, c70_8, c70_9, c70_10, c70_11, c70_12, c70_13, c70_14, c70_15, c70_16, c70_17, c70_18, c70_19, c70_20, c70_21, c70_22, d2, d3, w1]
      refine RunV.to (numDigits_ok (by omega) hn (sub_push hW _ _ _ hg)) ?_
      simp -implicitDefEqProofs (maxDischargeDepth := 15) only [↓reduceIte, Yr, Ys, Yt, Wb, Wj, Wk, Wo, Wu, opA, Wv, Ww, Wx, Wy, Wz, Za, Zb, Vb, Vg, Zf, Zg, Zh, Zi, Nat.reduceAdd, Nat.reduceLeDiff, Nat.reduceSub, Zj, Zk, binA, Zz, natOf, upTo, bMax, bHigh, bLow, boundsA, evO, Yh, Yi, eq_self, show wrapF .i64 ((1 : Int) + 3) = 4 from rfl, Nat.mul_one]
      refine (base10_ok (by omega) hn hWp Vg).mono ?_
      rintro u σ9 ⟨hb, hK⟩
      simp -implicitDefEqProofs (maxDischargeDepth := 15) only [↓reduceIte, Yr, Ys, Yt, Wa, Wg, Wh, Wj, Wk, Wl, Wo, Wq, Wu, opA, Wv, Ww, Wx, Wy, Wz, Za, Zb, Vb, Zf, Zg, Nat.reduceAdd, Nat.reduceLeDiff, Nat.reduceSub, Zj, Zk, Zm, Zn, Zo, Zp, binA, firstA, EndOk, resultA, oneOf, Zz, Yf, natOf, upTo, bMax, bHigh, bLow, boundsA, evO, Yh, Yi, eq_self, show wrapF .i64 ((1 : Int) + 3) = 4 from rfl, d3, hb, toBytes, Nat.mul_one]
      refine ⟨?_, fun i b e => hK.keep i b (by have := hW.lt e; omega) (sub_push hW _ i b e)⟩
      have q1 : n % 100 / 10 = n / 10 % 10 := by omega
      have q2 : n % 100 % 10 = n % 10 := by omega
      unfold numS
      rw [if_neg (by omega), if_neg h, UInt8.ofNat_toNat, UInt8.ofNat_toNat, q1, q2]
    refine key2.mono ?_
    rintro u σ9 ⟨rfl, hs⟩
    simp -implicitDefEqProofs (maxDischargeDepth := 15) only [Yr, Ys, Yt, Wh, Wo, Wu, opA, Wv, Wx, Wy, Wz, Za, Zb, Vb, true_and, EndOk, resultA, oneOf, Zz, eq_self]
    exact hs
  refine key.mono ?_
  rintro u σ9 ⟨rfl, hs⟩
  simp -implicitDefEqProofs (maxDischargeDepth := 15) only [Yr, Ys, Yt, Wh, Wo, Wu, opA, Wv, Wx, Wy, Wz, Za, Zb, Vb, true_and, EndOk, resultA, oneOf, Zz, eq_self]
  exact hs
end Go.Am
namespace Go.Am
open Go.RowKit Go.Proofs Do
set_option maxRecDepth 100000
theorem num_flat (l : List Nat) : AV.flatL (((l.map numS)).map AV.str) = true := by
  generalize l.map numS = ss
  induction ss with
  | nil => rfl
  | cons a r ih => simp only [List.map_cons, AV.flatL, ih]; rfl
theorem jn_bound {B : Nat} (sep : Str) : ∀ (ss : List Str), (∀ s ∈ ss, s.length ≤ B) → (jn ss sep).length ≤ ss.length * (B + sep.length)
  | [], _ => by simp [jn_nil]
  | [x], h => by rw [jn_one]; have := h x (by simp); simp only [List.length_cons, List.length_nil]; omega
  | x :: y :: r, h => by
    have h1 := h x (by simp)
    have h2 := jn_bound sep (y :: r) fun s hs => h s (List.mem_cons_of_mem _ hs)
    rw [jn_cons2]
    simp only [List.length_append, List.length_cons] at h2 ⊢
    rw [Nat.add_mul (r.length + 1) 1]
    omega
theorem list_ok {σ : AState} {o : Option (Nat × Nat)} {n : Nat} {c : Option Nat} {z : Nat} {l : List Nat} {w : Bool} (hI : Is σ.get o n z l) (hl : ∀ k ∈ l, k ≤ 999) (hn : l.length ≤ 1000) (hg : σ.get 3 = some (.cells pow10L w)) :
    RunF RR Tryz.prog n_describe_list [.slice o n c z] σ (fun u σ' => u = .str (listS l) ∧ σ' = σ) := by
  refine RunV.wf fun hW => RunV.forget rfl ?_
  refine runF_intro hmx rf_describe_list ?_
  have hnl : n = l.length := hI.1
  simp -implicitDefEqProofs (maxDischargeDepth := 15) only [Yr, Ys, Yt, Wj, Wk, Wm, Wo, opA, Wv, Ww, Wx, Wy, Wz, Za, Zb, List.replicate, Zc, Zd, Ze, Vb, Zf, Zg, Nat.reduceSub, Zk, i_describe_list, c28_8, c28_9, c28_10, c28_11, c28_12, c28_13]
  show wpC RR Tryz.prog (.loop c28_6) _ _ _
  refine wp_loopK (fun ts σ' m => ∃ (k : Nat) (o' : Option (Nat × Nat)) (c' : Option Nat) (z' : Nat), Grown σ σ' o' k c' z' 1 (((l.take k).map numS).map .str) ∧ k + m = n ∧ ∃ j1 j4 j5 j9 j10 j11 j12 j13 j14 j15 j16 j17 j18 j19 : AV, ts = [.slice o n c z, j1, .str [], .slice o' k c' z', j4, j5, .slice o n c z, .int .i64 n, .int .i64 k, j9, j10, j11, j12, j13, j14, j15, j16, j17, j18, j19]) n
    ⟨0, none, some 0, 0, Grown.nil hW hW (fun _ _ e => e) (Nat.le_refl _) _ _ _, by omega, _, _, _, _, _, _, _, _, _, _, _, _, _, _, rfl⟩ ?_
  rintro m ts σ' ⟨k, o', c', z', hG, hk, j1, j4, j5, j9, j10, j11, j12, j13, j14, j15, j16, j17, j18, j19, rfl⟩
  by_cases hlt : k < n
  · obtain ⟨x, hx, hxm⟩ := get_lt (l := l) (k := k) (by omega)
    obtain ⟨rfl, i, off, cs, w2, rfl, hgi, hci⟩ := hI.elem hx
    have hgk := hG.keep _ _ hgi
    have d1 : decide ((k : Int) < (n : Int)) = true := decide_eq_true (by omega)
    have e1 : (0 : Int) ≤ (k : Int) ∧ (k : Int) < (n : Int) := by omega
    simp -implicitDefEqProofs (maxDischargeDepth := 15) only [↓reduceIte, Yr, Ys, Yt, Yz, Wb, Wg, Wj, Wk, Wl, Wm, Wo, opA, Wv, Ww, Wx, Wy, Wz, Za, Zb, Vb, partA, Zh, Zi, binA, and_self, Yf, eq_self, Yp, c28_0, c28_1, c28_2, c28_3, c28_4, c28_5, c28_6, e1, hgk, hci, Nat.mul_one]
    refine RunV.to (itoaN_ok (by have := hl x hxm; omega) (hG.keep _ _ hg)) ?_
    have hG2 := hG.push (.cells [.str (numS x)] true)
    obtain ⟨es, he, hG3, _⟩ := hG2.kept (bytes := 16) (xs := [.str (numS x)]) (by omega) rfl rfl (decide_eq_true (by omega))
    have w1 : wrapF .i64 ((k : Int) + 1) = ((k + 1 : Nat) : Int) := by rw [wrap_i64 (by omega)]; rfl
    simp -implicitDefEqProofs (maxDischargeDepth := 15) only [↓reduceIte, Yr, Ys, Yt, Wj, Wo, Wr, Wu, opA, Wv, Ww, Wx, Wy, Wz, Za, Zb, Zd, Ze, Vb, Vc, Vd, AV.cells, Vg, Zf, Zg, Zh, Zi, Zj, Zk, Zm, Zn, Zo, Zp, Zs, Zt, binA, fillA, and_self, lenA, firstA, eq_self, he, w1, lk_n]
    refine ⟨m - 1, by omega, k + 1, _, _, _, ?_, by omega, _, _, _, _, _, _, _, _, _, _, _, _, _, _, rfl⟩
    have : (((l.take (k + 1)).map numS).map AV.str) = (((l.take k).map numS).map AV.str) ++ [.str (numS x)] := by rw [List.take_add_one, hx]; simp
    rw [this]
    exact hG3
  · have d1 : decide ((k : Int) < (n : Int)) = false := decide_eq_false (by omega)
    have hkk : l.take k = l := List.take_of_length_le (by omega)
    rw [hkk] at hG
    have hb := jn_bound (B := 3) sAnd (l.map numS) (fun s hs => by obtain ⟨x, _, rfl⟩ := List.mem_map.1 hs; exact (numS_len x).2)
    simp only [List.length_map, List.length_cons, List.length_nil] at hb
    simp -implicitDefEqProofs (maxDischargeDepth := 15) only [↓reduceIte, Yr, Ys, Yt, Wa, Wb, Wi, Wj, Wk, Wl, Wo, Wp, Ws, opA, Wv, Ww, Wx, Wy, Wz, Za, Zb, Vb, Zh, Zi, binA, eq_self, c28_0, c28_1, c28_2, c28_3, c28_4, c28_5, c28_6, d1, lk_e]
    refine RunV.to (sjoin_ok (hG.strs) sAnd (by omega) (by omega)) ?_
    simp -implicitDefEqProofs (maxDischargeDepth := 15) only [Yr, Ys, Yt, Wh, Wo, Wu, opA, Wv, Wx, Wy, Wz, Za, Zb, Vb, EndOk, resultA, oneOf, Zz]
    exact ⟨rfl, hG.keep⟩
end Go.Am
namespace Go.Am
open Go.RowKit Go.Proofs Do
set_option maxRecDepth 100000
abbrev tellA (io il : Nat) : AV := .func (.func n_describe_ProofS1) [] [.ptr (some (il, 0)), .ptr (some (io, 0))]
structure TOut (σB : AState) (io il : Nat) (σ : AState) (lines : List Str) (o : Option (Nat × Nat)) (n : Nat) (c : Option Nat) (z : Nat) : Prop where
  out : σ.get io = some (.cells [.slice o n c z] true)
  look : σ.get il = some (.cells [tellA io il] true)
  grown : Grown σB σ o n c z 1 (lines.map .str)
  ne : io ≠ il
  geo : σB.next ≤ io
  gel : σB.next ≤ il
  neo : o ≠ some (io, 0)
  nel : o ≠ some (il, 0)
theorem TOut.push {σB : AState} {io il : Nat} {σ : AState} {lines : List Str} {o : Option (Nat × Nat)} {n : Nat} {c : Option Nat} {z : Nat} (h : TOut σB io il σ lines o n c z) (b : ABlk) : TOut σB io il (σ.push b) lines o n c z :=
  ⟨sub_push h.grown.wf b _ _ h.out, sub_push h.grown.wf b _ _ h.look, h.grown.push b, h.ne, h.geo, h.gel, h.neo, h.nel⟩
abbrev TOwn (io : Nat) (o : Option (Nat × Nat)) : Nat → Prop := fun j => j = io ∨ o = some (j, 0)
structure TLive (ts : List AV) (v1 v2 v3 v5 v12 v13 v14 : AV) : Prop where
  len : ts.length = 106
  t1 : ts.getD 1 U = v1
  t2 : ts.getD 2 U = v2
  t3 : ts.getD 3 U = v3
  t5 : ts.getD 5 U = v5
  t12 : ts.getD 12 U = v12
  t13 : ts.getD 13 U = v13
  t14 : ts.getD 14 U = v14
theorem TLive.open {ts : List AV} {v1 v2 v3 v5 v12 v13 v14 : AV} (h : TLive ts v1 v2 v3 v5 v12 v13 v14) : ∃ a : Nat → AV, ts = [a 0, v1, v2, v3, a 4, v5, a 6, a 7, a 8, a 9, a 10, a 11, v12, v13, v14, a 15, a 16, a 17, a 18, a 19, a 20, a 21, a 22, a 23, a 24, a 25, a 26, a 27, a 28, a 29, a 30, a 31, a 32, a 33, a 34, a 35, a 36, a 37, a 38, a 39, a 40, a 41, a 42, a 43, a 44, a 45, a 46, a 47, a 48, a 49, a 50, a 51, a 52, a 53, a 54, a 55, a 56, a 57, a 58, a 59, a 60, a 61, a 62, a 63, a 64, a 65, a 66, a 67, a 68, a 69, a 70, a 71, a 72, a 73, a 74, a 75, a 76, a 77, a 78, a 79, a 80, a 81, a 82, a 83, a 84, a 85, a 86, a 87, a 88, a 89, a 90, a 91, a 92, a 93, a 94, a 95, a 96, a 97, a 98, a 99, a 100, a 101, a 102, a 103, a 104, a 105] := by
  have h1 := list_range h.len
  refine ⟨fun i => ts.getD i U, ?_⟩
  rw [← h.t1, ← h.t2, ← h.t3, ← h.t5, ← h.t12, ← h.t13, ← h.t14]
  exact h1
theorem strs3 {σ : AState} {a b c : Str} : Strs (σ.push (.cells [.str a, .str b, .str c] true)).get (some (σ.next, 0)) 3 1 [a, b, c] := strs_new rfl rfl
structure TEnd (ts : List AV) (v2 v9 v10 : AV) : Prop where
  len : ts.length = 106
  t2 : ts.getD 2 U = v2
  t9 : ts.getD 9 U = v9
  t10 : ts.getD 10 U = v10
theorem TEnd.open {ts : List AV} {v2 v9 v10 : AV} (h : TEnd ts v2 v9 v10) : ∃ a : Nat → AV, ts = [a 0, a 1, v2, a 3, a 4, a 5, a 6, a 7, a 8, v9, v10, a 11, a 12, a 13, a 14, a 15, a 16, a 17, a 18, a 19, a 20, a 21, a 22, a 23, a 24, a 25, a 26, a 27, a 28, a 29, a 30, a 31, a 32, a 33, a 34, a 35, a 36, a 37, a 38, a 39, a 40, a 41, a 42, a 43, a 44, a 45, a 46, a 47, a 48, a 49, a 50, a 51, a 52, a 53, a 54, a 55, a 56, a 57, a 58, a 59, a 60, a 61, a 62, a 63, a 64, a 65, a 66, a 67, a 68, a 69, a 70, a 71, a 72, a 73, a 74, a 75, a 76, a 77, a 78, a 79, a 80, a 81, a 82, a 83, a 84, a 85, a 86, a 87, a 88, a 89, a 90, a 91, a 92, a 93, a 94, a 95, a 96, a 97, a 98, a 99, a 100, a 101, a 102, a 103, a 104, a 105] := by
  have h1 := list_range h.len
  refine ⟨fun i => ts.getD i U, ?_⟩
  rw [← h.t2, ← h.t9, ← h.t10]
  exact h1
def TInv (σB : AState) (io il : Nat) (σ1 : AState) (bp : Nat) (o : Option (Nat × Nat)) (lines : List Str) (k : Nat) (s : List Pf) (ms : List (List Nat)) (vs : AV) (ts : List AV) (σ' : AState) (m' : Nat) : Prop :=
  ∃ (i : Nat) (o' : Option (Nat × Nat)) (c' : Option Nat) (z' : Nat) (uo : Option (Nat × Nat)) (uc : Option Nat) (uz : Nat), i + m' = s.length ∧ TOut σB io il σ' (lines ++ Pf.liness k (s.take i)) o' (k + Pf.sizes (s.take i)) c' z' ∧ Kept (TOwn io o) σ1 σ' ∧
      (∀ j, o' = some (j, 0) → o = some (j, 0) ∨ σ1.next ≤ j) ∧ Grown σB σ' uo i uc uz 1 ((usesS k (s.take i) (ms.take i)).map .str) ∧ (∀ j, uo = some (j, 0) → σ1.next ≤ j ∧ o' ≠ some (j, 0)) ∧
      TLive ts (.ptr (some (il, 0))) (.ptr (some (io, 0))) (.ptr (some (bp, 0))) (.slice uo i uc uz) vs (.int .i64 s.length) (.int .i64 i)
theorem useS_len (N : Nat) {mk : List Nat} (h : mk.length ≤ 3) : (useS N mk).length ≤ 100 := by
  have hn := numS_len N
  cases mk with
  | nil => show (numS N).length ≤ 100; omega
  | cons y yr =>
    have hlb := jn_bound (B := 3) sAnd ((y :: yr).map numS) (fun s hs => by obtain ⟨x, _, rfl⟩ := List.mem_map.1 hs; exact (numS_len x).2)
    have hlb2 : (listS (y :: yr)).length ≤ 30 := by
      unfold listS
      simp only [List.length_map, List.length_cons, List.length_nil] at hlb h ⊢
      refine Nat.le_trans hlb ?_
      have : yr.length ≤ 2 := by omega
      omega
    have := jn_bound (B := 30) sp [numS N, sEnding, listS (y :: yr)] (fun s hs => by
      simp only [List.mem_cons, List.not_mem_nil, or_false] at hs
      rcases hs with rfl | rfl | rfl
      · omega
      · simp
      · exact hlb2)
    simp only [List.length_cons, List.length_nil] at this
    exact Nat.le_trans this (by omega)
theorem usesS_bound : ∀ (l : List Pf) (ms : List (List Nat)) (k : Nat), (∀ m ∈ ms, m.length ≤ 3) → ∀ u ∈ usesS k l ms, u.length ≤ 100
  | [], ms, k, h, u, hu => by cases ms <;> simp [usesS] at hu
  | p :: r, [], k, h, u, hu => by simp [usesS] at hu
  | p :: r, m :: ms, k, h, u, hu => by
    simp only [usesS, List.mem_cons] at hu
    rcases hu with rfl | hu
    · exact useS_len _ (h m (by simp))
    · exact usesS_bound r ms _ (fun x hx => h x (by simp [hx])) u hu
set_option maxHeartbeats 4000000 in
theorem tell_ok {σB : AState} {io il : Nat} {pw : Bool} (hpow : σB.get 3 = some (.cells pow10L pw)) : ∀ (m : Nat) (p : Pf), p.size ≤ m → p.fit → ∀ (σ : AState) (lines : List Str) (xs : List AV) (o : Option (Nat × Nat)) (k : Nat) (c : Option Nat) (z : Nat), TOut σB io il σ lines o k c z → k + p.size ≤ 900 → DAtL σB.get p.dv xs →
    RunV RR Tryz.prog (tellA io il) [.agg xs] σ (fun u σ' => u = .int .i64 ((k + p.size : Nat) : Int) ∧ ∃ o' c' z', TOut σB io il σ' (lines ++ p.lines k) o' (k + p.size) c' z' ∧ Kept (TOwn io o) σ σ' ∧ ∀ j, o' = some (j, 0) → σ.next ≤ j) := by
  intro m
  induction m using Nat.strongRecOn with
  | _ m ih =>
  intro p hpm hfit σ lines xs o k c z hO hk hD
  refine runF_intro hmx rf_describe_ProofS1 ?_
  obtain ⟨r, f, n, s, ms, ep⟩ := proof_is p
  obtain ⟨fo, fn, fa, fl, ef⟩ := form_is f
  subst ep
  rw [Pf.fit] at hfit
  obtain ⟨hr, ht, hcase, hsub⟩ := hfit
  have hfsz := right_sizes hr
  have hfok : f.ok := by
    have h := hr
    simp only [F.right, Bool.and_eq_true, decide_eq_true_eq] at h
    exact F.shape_ok _ h.2
  have hftx := F.txt_len f ht
  obtain ⟨o1, c1, z1, o2, c2, z2, o3, c3, z3, o4, c4, z4, rfl, hFd, hP, hM⟩ := Pf.cells (by rw [ef] at hD; exact hD)
  have hW := hO.grown.wf
  have hslen : s.length ≤ 4 := by rcases hcase with ⟨_, h, _⟩ | ⟨_, h, _⟩ | ⟨_, _, h, _⟩ <;> simp_all
  have hmlen : ms.length = s.length := by rcases hcase with ⟨_, h, h', _⟩ | ⟨_, h, h', _⟩ | ⟨_, _, _, h, _⟩ <;> simp_all
  have hms : ∀ l ∈ ms, l.length ≤ 3 ∧ ∀ k ∈ l, k ≤ 999 := by
    rcases hcase with ⟨_, _, h, _⟩ | ⟨_, _, h, _⟩ | ⟨_, _, _, _, h⟩
    · intro l hl; rw [h] at hl; cases hl
    · intro l hl; rw [h] at hl; cases hl
    · exact h
  have hn999 : n ≤ 999 := by rcases hcase with ⟨_, _, _, _, h⟩ | ⟨_, _, _, h⟩ | ⟨_, h, _⟩ <;> omega
  have hpsz : (Pf.mk r f n s ms).size = 1 + Pf.sizes s := rfl
  rw [hpsz] at hpm hk ⊢
  have hO1 := hO.push (.cells [.str r, .int .u8 fo, .str fn, .slice o1 fa.length c1 z1, .slice o2 fl.length c2 z2, .int .i64 n, .slice o3 s.length c3 z3, .slice o4 ms.length c4 z4] true)
  have hb1 := Vg (σ := σ) (b := .cells [.str r, .int .u8 fo, .str fn, .slice o1 fa.length c1 z1, .slice o2 fl.length c2 z2, .int .i64 n, .slice o3 s.length c3 z3, .slice o4 ms.length c4 z4] true)
  have hK1 : Kept (TOwn io o) σ (σ.push (.cells [.str r, .int .u8 fo, .str fn, .slice o1 fa.length c1 z1, .slice o2 fl.length c2 z2, .int .i64 n, .slice o3 s.length c3 z3, .slice o4 ms.length c4 z4] true)) := (Kept.refl hW).push _
  have hnx : (σ.push (.cells [.str r, .int .u8 fo, .str fn, .slice o1 fa.length c1 z1, .slice o2 fl.length c2 z2, .int .i64 n, .slice o3 s.length c3 z3, .slice o4 ms.length c4 z4] true)).next = σ.next + 1 := rfl
  simp -implicitDefEqProofs (maxDischargeDepth := 15) only [Yr, Ys, Yt, Wj, Wk, Wm, Wo, opA, Wv, Ww, Wx, Wy, Wz, Za, Zb, List.replicate, Zc, Zd, Vb, Vc, Vd, AV.cells, Vg, partA, Zf, Zg, Nat.reduceAdd, Nat.reduceSub, Zk, Zq, Zr, i_describe_ProofS1, c22_15, c22_38, c22_39, c22_40]
  generalize (σ.push (.cells [.str r, .int .u8 fo, .str fn, .slice o1 fa.length c1 z1, .slice o2 fl.length c2 z2, .int .i64 n, .slice o3 s.length c3 z3, .slice o4 ms.length c4 z4] true)) = σ1 at *
  have hne : io ≠ σ.next := by have := hW.lt hO.out; omega
  have hone : o ≠ some (σ.next, 0) := fun q => by have := (hO.grown.at_lt q).2; omega
  have hoil : ∀ j, o = some (j, 0) → j < σ.next := fun j q => (hO.grown.at_lt q).2
  have hiol := hW.lt hO.out
  have hO1' := hO1
  show wpC RR Tryz.prog (.loop c22_13) _ _ _
  refine wp_loopK (TInv σB io il σ1 σ.next o lines k s ms (.slice o3 s.length c3 z3)) s.length
    ⟨0, o, c, z, none, some 0, 0, by omega, by simpa [Pf.liness, Pf.sizes] using hO1, Kept.refl hK1.wf, fun j q => .inl q, by simpa [usesS] using Grown.nil hO1.grown.wf0 hO1.grown.wf hO1.grown.keep hO1.grown.le _ _ _, (fun j q => by cases q), rfl, rfl, rfl, rfl, rfl, rfl, rfl, rfl⟩ ?_
  rintro m' ts σ' ⟨i, o', c', z', uo, uc, uz, him, hOi, hKi, hoi, hGu, huo, hL⟩
  obtain ⟨a, rfl⟩ := hL.open
  have hbk := hKi.keep σ.next _ (by rintro (q | q); exact hne q.symm; exact hone q) hb1
  have hbkl := hKi.wf.lt hbk
  have hoib : o' ≠ some (σ.next, 0) := fun q => by
    rcases hoi _ q with h | h
    · exact hone h
    · omega
  have hle1 := hKi.le
  by_cases hlt : i < s.length
  · obtain ⟨t, hti, htm⟩ := get_lt (l := s) (k := i) hlt
    obtain ⟨mk, hmi, hmm⟩ := get_lt (l := ms) (k := i) (by omega)
    obtain ⟨rfl, ip, offp, csp, wp, rfl, hgp, hlp8, xsp, hxsp, hdp⟩ := hP.elem hti
    obtain ⟨rfl, im, offm, csm, wm, rfl, hgm, om, cm, zm, hcm, hIs⟩ := hM.elem hmi
    have hgp' := hOi.grown.keep _ _ hgp
    have hpl := hKi.wf.lt hgp'
    obtain ⟨hml3, hmv⟩ := hms mk hmm
    obtain ⟨pr, pf, pn, psl, pm, ept⟩ := proof_is t
    obtain ⟨fo', fn', fa', fl', eft⟩ := form_is pf
    subst eft
    have hdp0 := hdp
    rw [ept] at hdp
    obtain ⟨p1, q1, y1, p2, q2, y2, p3, q3, y3, p4, q4, y4, rfl, _, _, _⟩ := Pf.cells hdp
    rw [← ept] at hdp
    have e1 : (0 : Int) ≤ (i : Int) ∧ (i : Int) < (s.length : Int) := by omega
    have e2 : (0 : Int) ≤ (i : Int) ∧ (i : Int) < (ms.length : Int) := by omega
    have d5 : decide ((i : Int) < (s.length : Int)) = true := decide_eq_true (by omega)
    have hlk := hOi.look
    have hlkl := hKi.wf.lt hlk
    have hsz := sizes_take_le hti
    have hts : t.size ≤ Pf.sizes s := psize_mem htm
    simp -implicitDefEqProofs (maxDischargeDepth := 15) only [↓reduceIte, Yr, Ys, Yt, Yz, Wb, Wg, Wj, Wk, Wl, Wm, Wo, opA, Wv, Wx, Wy, Wz, Va, Za, Zb, Zd, Ze, Vb, Vc, Vd, Ve, AV.cells, Vg, Vh, Vn, partA, Zf, Zg, Zh, Zi, Nat.reduceAdd, Zj, Zk, Zm, Zn, Zo, Zp, Zq, Zs, Zt, binA, putL, allOne, Zu, Zv, AV.one, Zy, and_self, Yf, eq_self, Yp, c22_0, c22_1, c22_2, c22_3, c22_4, c22_5, c22_7, c22_8, c22_9, c22_11, c22_12, c22_13, e1, hgp', hlp8, hxsp, hlk, hlkl]
    refine (ih t.size (by omega) t (Nat.le_refl _) (pfits_all.1 hsub t htm) _ _ _ _ _ _ _ (hOi.push _) (by omega) hdp0).mono ?_
    rintro u σ2 ⟨rfl, o2', c2', z2', hO2, hK2, ho2⟩
    have hK12 : Kept (TOwn io o) σ1 σ2 := ⟨Nat.le_trans hKi.le (Nat.le_of_succ_le hK2.le), fun j b q e => hK2.keep j b (fun q2 => by
      rcases q2 with q2 | q2
      · exact q (.inl q2)
      · rcases hoi _ q2 with h | h
        · exact q (.inr h)
        · have := hK1.wf.lt e; omega) (sub_push hKi.wf _ _ _ (hKi.keep j b q e)), hK2.wf⟩
    have hb2 := hK12.keep σ.next _ (by rintro (q | q); exact hne q.symm; exact hone q) hb1
    have hb2l := hK2.wf.lt hb2
    have hle12 := hK12.le
    have hle2 : σ'.next + 1 ≤ σ2.next := hK2.le
    have hgm2 := hO2.grown.keep _ _ hgm
    have hml2 := hK2.wf.lt hgm2
    have hIs2 := hIs.sub hO2.grown.keep
    have hGu2 : Grown σB σ2 uo i uc uz 1 ((usesS k (s.take i) (ms.take i)).map .str) := (hGu.push (.cells [.str pr, .int .u8 fo', .str fn', .slice p1 fa'.length q1 y1, .slice p2 fl'.length q2 y2, .int .i64 pn, .slice p3 psl.length q3 y3, .slice p4 pm.length q4 y4] true)).keptBy hK2 (fun j q q2 => by
      rcases q2 with q2 | q2
      · have := (huo j q).1; omega
      · exact (huo j q).2 q2) (fun j q => by
      rcases q with q | q
      · rw [q]; exact hO.geo
      · exact (hOi.grown.at_lt q).1)
    have huo2 : ∀ j, uo = some (j, 0) → σ1.next ≤ j ∧ o2' ≠ some (j, 0) := fun j q => ⟨(huo j q).1, fun q2 => by have h1 := ho2 j q2; have h2 := (hGu.at_lt q).2; simp only [AState.push_next] at h1; omega⟩
    have ho2' : ∀ j, o2' = some (j, 0) → σ1.next ≤ j := fun j q => by have := ho2 j q; simp only [AState.push_next] at this; omega
    have hnum : k + Pf.sizes (s.take i) + t.size < 1000 := by omega
    simp -implicitDefEqProofs (maxDischargeDepth := 15) only [Wb, Wu, Wv, Ww, Wx, Wy, Wz, Za, Zb, Zh, Zi]
    refine RunV.to (itoaN_ok hnum (hO2.grown.keep _ _ hpow)) ?_
    have hlines : lines ++ Pf.liness k (s.take i) ++ t.lines (k + Pf.sizes (s.take i)) = lines ++ Pf.liness k (s.take (i + 1)) := by rw [liness_take k hti, List.append_assoc]
    rw [hlines] at hO2
    have hsz2 : k + Pf.sizes (s.take i) + t.size = k + Pf.sizes (s.take (i + 1)) := by rw [sizes_take hti, Nat.add_assoc]
    have hus : (usesS k (s.take (i + 1)) (ms.take (i + 1))).map AV.str = (usesS k (s.take i) (ms.take i)).map AV.str ++ [.str (useS (k + Pf.sizes (s.take i) + t.size) mk)] := by rw [usesS_take k hti hmi]; simp
    have w6 : wrapF .i64 ((i : Int) + 1) = ((i + 1 : Nat) : Int) := by rw [wrap_i64 (by omega)]; rfl
    have hend : ∀ (Qn : Ex → List AV → AState → Prop), (∀ ts σ4, TInv σB io il σ1 σ.next o lines k s ms (.slice (some (ip, offp)) s.length c3 8) ts σ4 (m' - 1) → Qn .normal ts σ4) → ∀ (σ3 : AState) (ts : List AV) (v8 : AV), Grow σ2 σ3 → v8 = .str (useS (k + Pf.sizes (s.take i) + t.size) mk) → TLive ts (.ptr (some (il, 0))) (.ptr (some (io, 0))) (.ptr (some (σ.next, 0))) (.slice uo i uc uz) (.slice (some (ip, offp)) s.length c3 8) (.int .i64 s.length) (.int .i64 i) → ts.getD 8 U = v8 →
        wpC RR Tryz.prog c22_6 ts σ3 (BlockK 1 (SeqK RR Tryz.prog c22_10 Qn)) := by
      intro Qn hQn σ3 ts v8 hG3 hv8 hL3 h8
      subst hv8
      obtain ⟨a, rfl⟩ := hL3.open
      simp only [Wy, Wx] at h8
      have hGu3 := (hGu2.grow hG3).push (.cells [.str (useS (k + Pf.sizes (s.take i) + t.size) mk)] true)
      obtain ⟨es, he, hGu4, hKu4⟩ := hGu3.kept (bytes := 16) (xs := [.str (useS (k + Pf.sizes (s.take i) + t.size) mk)]) (by omega) rfl rfl (decide_eq_true (by omega))
      have hG3p := hG3.push (.cells [.str (useS (k + Pf.sizes (s.take i) + t.size) mk)] true)
      have hnx3 : σ3.next < (σ3.push (.cells [.str (useS (k + Pf.sizes (s.take i) + t.size) mk)] true)).next := Nat.lt_succ_self _
      simp -implicitDefEqProofs (maxDischargeDepth := 15) only [↓reduceIte, Yr, Ys, Yt, Wj, Wo, Wr, opA, Wv, Ww, Wx, Wy, Wz, Za, Zb, Zd, Ze, Vb, Vc, Vd, AV.cells, Vg, Zf, Zg, Zh, Zi, Zj, Zk, Zm, Zn, Zo, Zp, Zs, Zt, binA, fillA, and_self, lenA, firstA, eq_self, c22_6, c22_10, h8, he, w6]
      have hlt1 : ∀ j b, σ1.get j = some b → uo ≠ some (j, 0) := fun j b e q => by have := (huo j q).1; have := hK1.wf.lt e; omega
      refine hQn _ _ ⟨i + 1, o2', c2', z2', _, _, _, by omega, ?_, ⟨Nat.le_trans hK12.le (Nat.le_trans hG3p.le hKu4.le), fun j b q e => hKu4.keep j b (hlt1 j b e) (hG3p.sub _ _ (hK12.keep j b q e)), hKu4.wf⟩, fun j q => .inr (ho2' j q), by rw [hus]; exact hGu4, fun j q => ?_, rfl, rfl, rfl, rfl, rfl, rfl, rfl, rfl⟩
      · rw [← hsz2]
        exact ⟨hKu4.keep io _ (hlt1 io _ hO1.out) (hG3p.sub _ _ hO2.out), hKu4.keep il _ (hlt1 il _ hO1.look) (hG3p.sub _ _ hO2.look), (hO2.grown.grow hG3p).keptBy hKu4 (fun j q q2 => (huo2 j q2).2 q) (fun j q => (hGu.at_lt q).1), hO2.ne, hO2.geo, hO2.gel, hO2.neo, hO2.nel⟩
      · have hle3 := hG3.le
        simp only [Option.some.injEq, Prod.mk.injEq, and_true] at q
        subst q
        refine ⟨by omega, fun q => ?_⟩
        have := (hO2.grown.at_lt q).2
        omega
    cases mk with
    | nil =>
      simp -implicitDefEqProofs (maxDischargeDepth := 15) only [↓reduceIte, Yr, Ys, Yt, Wa, Wg, Wj, Wk, Wl, Wo, Wu, opA, Wv, Ww, Wx, Wy, Wz, Za, Zb, Vb, partA, Zg, Zk, Zq, Zr, binA, and_self, Yf, eq_self, hb2, hgm2, hcm, e2, Nat.mul_one, show decide (((0 : Nat) : Int) > 0) = false from rfl]
      refine hend _ ?_ _ _ (.str (useS (k + Pf.sizes (s.take i) + t.size) [])) (Grow.refl hK2.wf) ?_ ?_ ?_
      · exact fun ts' σ4 h => ⟨m' - 1, by omega, h⟩
      · rfl
      · exact ⟨rfl, rfl, rfl, rfl, rfl, rfl, rfl, rfl⟩
      · rfl
    | cons y yr =>
      have dpos : decide (((y :: yr).length : Int) > 0) = true := decide_eq_true (by simp only [List.length_cons]; omega)
      have dpos2 : decide (((yr.length + 1 : Nat) : Int) > 0) = true := decide_eq_true (by omega)
      simp -implicitDefEqProofs (maxDischargeDepth := 15) only [↓reduceIte, Yr, Ys, Yt, Yz, Wb, Wj, Wk, Wl, Wo, Wu, opA, Wv, Ww, Wx, Wy, Wz, Za, Zb, Vb, partA, Zf, Zh, Zi, Zk, Zq, Zr, binA, and_self, Yf, eq_self, hb2, hgm2, hcm, e2, Nat.mul_one, dpos2]
      refine RunV.to (list_ok hIs2 hmv (by omega) (hO2.grown.keep _ _ hpow)) ?_
      simp -implicitDefEqProofs (maxDischargeDepth := 15) only [↓reduceIte, Ys, Yt, Wb, Wu, opA, Wv, Ww, Wx, Wy, Wz, Za, Zb, Zc, Zd, Ze, Vb, Vc, Vd, AV.cells, Zf, Zg, Zh, Zi, Nat.reduceAdd, Nat.reduceLeDiff, Zj, Zk, Zm, Zn, Zo, Zp, Zs, fillA, and_self, eq_self]
      have hnl := numS_len (k + Pf.sizes (s.take i) + t.size)
      have hlb := jn_bound (B := 3) sAnd ((y :: yr).map numS) (fun s hs => by obtain ⟨x, _, rfl⟩ := List.mem_map.1 hs; exact (numS_len x).2)
      have hlb2 : (listS (y :: yr)).length ≤ 30 := by
        unfold listS
        simp only [List.length_map, List.length_cons, List.length_nil] at hlb hml3 ⊢
        refine Nat.le_trans hlb ?_
        have : yr.length ≤ 2 := by omega
        omega
      refine RunV.to (join_ok strs3 ?_ (by omega)) ?_
      · have := jn_bound (B := 30) sp [numS (k + Pf.sizes (s.take i) + t.size), sEnding, listS (y :: yr)] (fun s hs => by
          simp only [List.mem_cons, List.not_mem_nil, or_false] at hs
          rcases hs with rfl | rfl | rfl
          · omega
          · simp
          · exact hlb2)
        simp only [List.length_cons, List.length_nil] at this
        exact Nat.le_trans this (by omega)
      · simp -implicitDefEqProofs (maxDischargeDepth := 15) only [Yr, Ys, Yt, Wo, Wu, opA, Wv, Wx, Wy, Wz, Za, Zb, Vb]
        refine hend _ ?_ _ _ (.str (useS (k + Pf.sizes (s.take i) + t.size) (y :: yr))) ((Grow.refl hK2.wf).push _) ?_ ?_ ?_
        · exact fun ts' σ4 h => ⟨m' - 1, by omega, h⟩
        · rfl
        · exact ⟨rfl, rfl, rfl, rfl, rfl, rfl, rfl, rfl⟩
        · rfl
  · have d5 : decide ((i : Int) < (s.length : Int)) = false := decide_eq_false (by omega)
    have hti : s.take i = s := List.take_of_length_le (by omega)
    have hmi : ms.take i = ms := List.take_of_length_le (by omega)
    rw [hti] at hOi hGu
    rw [hmi] at hGu
    have his : i = s.length := by omega
    subst his
    simp -implicitDefEqProofs (maxDischargeDepth := 15) only [↓reduceIte, Yr, Ys, Yt, Wa, Wi, Wj, Wk, Wl, Wo, Wp, Ws, opA, Wv, Wx, Wy, Wz, Za, Zb, Vb, binA, eq_self, c22_0, c22_1, c22_2, c22_3, c22_4, c22_5, c22_6, c22_7, c22_8, c22_9, c22_10, c22_11, c22_12, c22_13, d5, lk_e]
    have hK01 : Kept (TOwn io o) σ σ' := hK1.trans hKi
    have hout := hOi.out
    have hlook := hOi.look
    have w1 : wrapF .i64 (((k + Pf.sizes s : Nat) : Int) + 1) = ((k + Pf.sizes s + 1 : Nat) : Int) := by rw [wrap_i64 (by omega)]; rfl
    simp -implicitDefEqProofs (maxDischargeDepth := 15) only [↓reduceIte, Yr, Ys, Yt, Wb, Wj, Wk, Wo, opA, Wv, Ww, Wx, Wy, Wz, Za, Zb, Vb, partA, Zh, Zi, Zq, binA, eq_self, c22_16, c22_35, c22_36, c22_37, hout, w1]
    refine RunV.to (itoaN_ok (by omega) (hOi.grown.keep _ _ hpow)) ?_
    have hFd' : DAtL σ'.get f.dv [.int .u8 fo, .str fn, .slice o1 fa.length c1 z1, .slice o2 fl.length c2 z2] := by rw [ef]; exact DAtL.sub hOi.grown.keep _ _ hFd
    have htxt := text_ok _ f (Nat.le_refl _) (by omega) hfok (by omega) _ _ hFd'
    have hnl := numS_len (k + Pf.sizes s + 1)
    have hnl2 := numS_len n
    have q1 : (numS (k + Pf.sizes s + 1)).length + (0 + 1 + 1) < 9223372036854775808 := by omega
    have q1' : (numS (k + Pf.sizes s + 1)).length + 2 < 9223372036854775808 := by omega
    simp -implicitDefEqProofs (maxDischargeDepth := 15) only [↓reduceIte, Yr, Ys, Yt, Wk, Wm, Wo, Wu, opA, Wv, Ww, Wx, Wy, Wz, Za, Zb, Vb, Zf, Zg, Nat.reduceAdd, Zk, binA, q1]
    have hend : ∀ (ts : List AV), TEnd ts (.ptr (some (io, 0))) (.int .i64 ((k + Pf.sizes s + 1 : Nat) : Int)) (.str (lineP (k + Pf.sizes s + 1) r f n (usesS k s ms))) →
        wpC RR Tryz.prog c22_34 ts σ' (EndOk [(4, none)] fun u σ' => u = .int .i64 ((k + (1 + Pf.sizes s) : Nat) : Int) ∧ ∃ o' c' z', TOut σB io il σ' (lines ++ Pf.lines k (Pf.mk r f n s ms)) o' (k + (1 + Pf.sizes s)) c' z' ∧ Kept (TOwn io o) σ σ' ∧ ∀ j, o' = some (j, 0) → σ.next ≤ j) := by
      intro ts hT
      obtain ⟨a, rfl⟩ := hT.open
      have hO2 := hOi.push (.cells [.str (lineP (k + Pf.sizes s + 1) r f n (usesS k s ms))] true)
      obtain ⟨es, he, hG3, hK3⟩ := hO2.grown.kept (bytes := 16) (xs := [.str (lineP (k + Pf.sizes s + 1) r f n (usesS k s ms))]) (by omega) rfl rfl (decide_eq_true (by omega))
      have hio3 := hK3.keep io _ hOi.neo hO2.out
      have hil3 := hK3.keep il _ hOi.nel hO2.look
      have hio3l := hK3.wf.lt hio3
      simp -implicitDefEqProofs (maxDischargeDepth := 15) only [↓reduceIte, Yr, Ys, Yt, Wh, Wj, Wk, Wo, opA, Wv, Wx, Wy, Wz, Va, Za, Zb, Zd, Ze, Vb, Vc, Vd, Ve, AV.cells, Vg, partA, Zf, Zg, Zh, Zi, Zj, Zk, Zm, Zn, Zo, Zp, Zq, Zs, Zt, fillA, putL, allOne, Zu, Zv, AV.one, Zy, and_self, lenA, firstA, EndOk, resultA, oneOf, Zz, eq_self, c22_33, c22_34, hout, he, hio3]
      have hiol2 : io < σ'.next := hKi.wf.lt hout
      have hnx2 : (σ'.push (.cells [.str (lineP (k + Pf.sizes s + 1) r f n (usesS k s ms))] true)).next = σ'.next + 1 := rfl
      have hKs : Kept (fun j => j = io) ((σ'.push (.cells [.str (lineP (k + Pf.sizes s + 1) r f n (usesS k s ms))] true)).app es) (((σ'.push (.cells [.str (lineP (k + Pf.sizes s + 1) r f n (usesS k s ms))] true)).app es).set io (.cells [.slice (some ((σ'.push (.cells [.str (lineP (k + Pf.sizes s + 1) r f n (usesS k s ms))] true)).next, 0)) (k + Pf.sizes s + 1) none 1] true)) := (Kept.refl hK3.wf).set (Own := fun j => j = io) rfl hio3l _
      have hGs := hG3.keptBy hKs (fun j q q2 => by
        simp only [Option.some.injEq, Prod.mk.injEq, and_true] at q
        omega) (fun j q => by rw [q]; exact hO.geo)
      have hl1 : lines ++ Pf.liness k s ++ [lineP (k + Pf.sizes s + 1) r f n (usesS k s ms)] = lines ++ Pf.lines k (Pf.mk r f n s ms) := by rw [List.append_assoc]; rfl
      have hl2 : (lines ++ Pf.liness k s).map AV.str ++ [AV.str (lineP (k + Pf.sizes s + 1) r f n (usesS k s ms))] = (lines ++ Pf.lines k (Pf.mk r f n s ms)).map AV.str := by rw [← hl1]; simp
      have hk1 : k + (1 + Pf.sizes s) = k + Pf.sizes s + 1 := by omega
      rw [hk1]
      rw [hl2] at hGs
      refine ⟨rfl, _, _, _, ⟨Vk, by rw [Vl (Ne.symm hO.ne)]; exact hil3, hGs, hO.ne, hO.geo, hO.gel, fun q => ?_, fun q => ?_⟩, ⟨Nat.le_trans hK01.le (Nat.le_trans (Nat.le_succ _) (Nat.le_trans hK3.le hKs.le)), fun j b q e => hKs.keep j b (fun q2 => q (.inl q2)) (hK3.keep j b (fun q2 => ?_) (sub_push hKi.wf _ _ _ (hK01.keep j b q e))), hKs.wf⟩, fun j q => ?_⟩
      · simp only [Option.some.injEq, Prod.mk.injEq, and_true] at q; omega
      · have := hKi.wf.lt hlook
        simp only [Option.some.injEq, Prod.mk.injEq, and_true] at q; omega
      · rcases hoi j q2 with h | h
        · exact q (.inr h)
        · have := hW.lt e; omega
      · simp only [Option.some.injEq, Prod.mk.injEq, and_true] at q; omega
    rcases hcase with ⟨rfl, rfl, rfl, hn1, hn2⟩ | ⟨rfl, rfl, rfl, rfl⟩ | ⟨hrule, rfl, _, _, _⟩
    · simp -implicitDefEqProofs (maxDischargeDepth := 15) only [↓reduceIte, Yr, Ys, Yt, Yz, Wb, Wj, Wk, Wl, Wo, opA, Wv, Ww, Wx, Wy, Wz, Za, Zb, Vb, partA, Zf, Zg, Zh, Zi, Nat.reduceAdd, Nat.reduceLeDiff, Zk, Zl, Zm, Zn, Zo, Zp, Zq, Zr, binA, Yj, c22_17, c22_18, c22_19, c22_20, c22_21, c22_22, c22_23, c22_24, c22_25, c22_26, c22_27, c22_28, c22_29, c22_30, c22_31, c22_32, hbk]
      refine RunV.to (itoaN_ok (by omega) (hOi.grown.keep _ _ hpow)) ?_
      have q2 : 7 + (numS n).length < 9223372036854775808 := by omega
      have q3 : (numS n).length + 1 + 1 + 1 + 1 + 1 + 1 + 1 + 2 < 9223372036854775808 := by omega
      simp -implicitDefEqProofs (maxDischargeDepth := 15) only [↓reduceIte, Ys, Yt, Wb, Wc, Wu, opA, Wv, Ww, Wx, Wy, Wz, Za, Zb, Zc, Zd, Vb, partA, Zf, Zg, Zh, Zi, Nat.reduceAdd, Nat.reduceLeDiff, Zk, Zm, Zn, Zo, Zp, binA, true_and, againOk, eq_self, hbk, q2, q3]
      refine RunV.to htxt ?_
      have q4 : (numS n).length + 2 + 1 + 1 + 1 + 1 + 1 + 1 + 1 + f.txt.length < 9223372036854775808 := by omega
      have q5 : (numS (k + Pf.sizes [] + 1)).length + 2 + ((numS n).length + 2 + f.txt.length + 1 + 1 + 1 + 1 + 1 + 1 + 1) < 9223372036854775808 := by
        have := numS_len (k + Pf.sizes [] + 1); omega
      simp -implicitDefEqProofs (maxDischargeDepth := 15) only [↓reduceIte, Yr, Ys, Yt, Wo, Wr, Wu, opA, Wv, Wx, Wy, Wz, Za, Zb, Zc, Vb, Zf, Zg, Nat.reduceAdd, Zk, binA, q4, q5, List.length_append]
      refine hend _ ⟨rfl, rfl, rfl, ?_⟩
      simp [lineP]
    · simp -implicitDefEqProofs (maxDischargeDepth := 15) only [↓reduceIte, Yr, Ys, Yt, Yz, Wa, Wb, Wj, Wk, Wl, Wo, opA, Wv, Ww, Wx, Wy, Wz, Za, Zb, Vb, partA, Zf, Zg, Zh, Zi, Nat.reduceAdd, Nat.reduceLeDiff, Zk, Zl, Zm, Zn, Zo, Zp, Zq, binA, Yj, c22_17, c22_18, c22_19, c22_20, c22_21, c22_22, c22_23, c22_24, c22_25, c22_26, c22_27, c22_28, c22_29, c22_30, c22_31, c22_32, hbk, show (([63] : Str) == []) = false from rfl]
      refine RunV.to htxt ?_
      have q4 : f.txt.length + 15 < 9223372036854775808 := by omega
      have q5 : (numS (k + Pf.sizes [] + 1)).length + 2 + (f.txt.length + 15) < 9223372036854775808 := by
        have := numS_len (k + Pf.sizes [] + 1); omega
      simp -implicitDefEqProofs (maxDischargeDepth := 15) only [↓reduceIte, Yr, Ys, Yt, Wo, Wr, Wu, opA, Wv, Ww, Wx, Wy, Wz, Za, Zb, Vb, Zf, Zg, Nat.reduceAdd, Zk, binA, q4, q5, List.length_append]
      refine hend _ ⟨rfl, rfl, rfl, ?_⟩
      simp [lineP]
    · have r0 : (r == []) = false := by rcases hrule with rfl | rfl | rfl <;> rfl
      have r1 : (r == [63]) = false := by rcases hrule with rfl | rfl | rfl <;> rfl
      by_cases hs0 : s.length = 0
      · have hsn : s = [] := List.length_eq_zero_iff.1 hs0
        have hmn : ms = [] := List.length_eq_zero_iff.1 (by omega)
        subst hsn
        subst hmn
        simp -implicitDefEqProofs (maxDischargeDepth := 15) only [↓reduceIte, Yr, Ys, Yt, Yz, Wa, Wb, Wj, Wk, Wl, Wo, opA, Wv, Ww, Wx, Wy, Wz, Za, Zb, Vb, partA, Zf, Zg, Zh, Zi, Nat.reduceAdd, Nat.reduceLeDiff, Zk, Zl, Zm, Zn, Zo, Zp, Zq, binA, eq_self, c22_17, c22_18, c22_19, c22_20, c22_21, c22_22, c22_23, c22_24, c22_25, c22_26, c22_27, c22_28, c22_29, c22_30, c22_31, c22_32, hbk, r0, r1, show (((0 : Nat) : Int) == 0) = true from rfl]
        refine RunV.to htxt ?_
        have hrl : r.length ≤ 20 := by rcases hrule with rfl | rfl | rfl <;> decide
        have q4a : f.txt.length + 5 < 9223372036854775808 := by omega
        have q4 : f.txt.length + 5 + r.length < 9223372036854775808 := by omega
        have q5 : (numS (k + Pf.sizes [] + 1)).length + 2 + (f.txt.length + 5 + r.length) < 9223372036854775808 := by
          have := numS_len (k + Pf.sizes [] + 1); omega
        simp -implicitDefEqProofs (maxDischargeDepth := 15) only [↓reduceIte, Yr, Ys, Yt, Wc, Wo, Wr, Wu, opA, Wv, Ww, Wx, Wy, Wz, Za, Zb, Vb, partA, Zf, Zg, Nat.reduceAdd, Zk, Zq, binA, true_and, againOk, eq_self, q4a, q4, q5, List.length_append, hbk]
        refine hend _ ⟨rfl, rfl, rfl, ?_⟩
        have r2 : r ≠ [] := by rcases hrule with rfl | rfl | rfl <;> simp
        have r3 : r ≠ [63] := by rcases hrule with rfl | rfl | rfl <;> simp
        simp [lineP, usesS, r2, r3]
      · have d0 : (((s.length : Nat) : Int) == 0) = false := by rw [beq_eq_false_iff_ne]; omega
        simp -implicitDefEqProofs (maxDischargeDepth := 15) only [↓reduceIte, Yr, Ys, Yt, Wa, Wb, Wj, Wk, Wl, Wo, opA, Wv, Ww, Wx, Wy, Wz, Za, Zb, Vb, partA, Zf, Zg, Zh, Zi, Nat.reduceAdd, Nat.reduceLeDiff, Zk, Zl, Zm, Zn, Zo, Zp, Zq, binA, eq_self, c22_17, c22_18, c22_19, c22_20, c22_21, c22_22, c22_23, c22_24, c22_25, c22_26, c22_27, c22_28, c22_29, c22_30, c22_31, c22_32, hbk, r0, r1, d0]
        refine RunV.to htxt ?_
        have hrl : r.length ≤ 20 := by rcases hrule with rfl | rfl | rfl <;> decide
        have q4a : f.txt.length + 5 < 9223372036854775808 := by omega
        have q4 : f.txt.length + 5 + r.length < 9223372036854775808 := by omega
        have q4' : f.txt.length + 5 + r.length + 6 < 9223372036854775808 := by omega
        simp -implicitDefEqProofs (maxDischargeDepth := 15) only [↓reduceIte, Ys, Yt, Wb, Wc, Wu, opA, Wv, Ww, Wx, Wy, Wz, Za, Zb, Vb, partA, Zf, Zg, Zh, Zi, Nat.reduceAdd, Zk, Zq, binA, true_and, againOk, eq_self, q4a, q4, q4', List.length_append, hbk]
        have hub : (jn (usesS k s ms) sComma).length ≤ 408 := by
          have h := jn_bound (B := 100) sComma (usesS k s ms) (usesS_bound s ms k (fun m hm => (hms m hm).1))
          rw [usesS_len k s ms (by omega)] at h
          refine Nat.le_trans h ?_
          have : sComma.length = 2 := rfl
          rw [this]
          omega
        refine RunV.to (sjoin_ok hGu.strs sComma (by omega) (by omega)) ?_
        have q5 : f.txt.length + 5 + r.length + 6 + (jn (usesS k s ms) sComma).length < 9223372036854775808 := by omega
        have q6 : (numS (k + Pf.sizes s + 1)).length + 2 + (f.txt.length + 5 + r.length + 6 + (jn (usesS k s ms) sComma).length) < 9223372036854775808 := by
          omega
        simp -implicitDefEqProofs (maxDischargeDepth := 15) only [↓reduceIte, Yr, Ys, Yt, Wc, Wo, Wr, Wu, opA, Wv, Wx, Wy, Wz, Za, Zb, Vb, partA, Zf, Zg, Nat.reduceAdd, Zk, Zq, binA, true_and, againOk, eq_self, q5, q6, List.length_append, hbk]
        refine hend _ ⟨rfl, rfl, rfl, ?_⟩
        have r2 : r ≠ [] := by rcases hrule with rfl | rfl | rfl <;> simp
        have r3 : r ≠ [63] := by rcases hrule with rfl | rfl | rfl <;> simp
        have hul := usesS_len k s ms (by omega)
        cases hus : usesS k s ms with
        | nil => rw [hus] at hul; exact absurd hul.symm hs0
        | cons u ur => simp [lineP, r2, r3]
end Go.Am
namespace Go.Am
open Go.RowKit Go.Proofs Do
set_option maxRecDepth 100000
set_option maxHeartbeats 4000000 in
theorem lines_ok {p : Pf} (hfit : p.fit) (hsz : p.size ≤ 40) (σ : AState) (xs : List AV) (hD : DAtL σ.get p.dv xs) {pw : Bool} (hpow : σ.get 3 = some (.cells pow10L pw)) :
    RunF RR Tryz.prog n_describe_Proof [.agg xs] σ (fun u σ' => ∃ o c z, u = .tuple [.slice o p.size c z, .int .i64 0] ∧ Grown σ σ' o p.size c z 1 ((p.lines 0).map .str)) := by
  refine RunV.wf fun hW => ?_
  refine runF_intro hmx rf_describe_Proof ?_
  have hl8 : 8 ≤ xs.length := by rw [hD.length, Pf.dv_len]; omega
  have ht8 : xs.take 8 = xs := List.take_of_length_le (by rw [hD.length, Pf.dv_len]; omega)
  have hW1 := hW.push (.cells xs true)
  have hD1 := DAtL.sub (sub_push hW (.cells xs true)) _ _ hD
  simp -implicitDefEqProofs (maxDischargeDepth := 15) only [↓reduceIte, Yr, Ys, Yt, Wb, Wj, Wk, Wo, opA, Wv, Ww, Wx, Wy, Wz, Za, Zb, List.replicate, Zc, Zd, Ze, Vb, Vc, Vd, AV.cells, Vg, partA, Zf, Zg, Zh, Zi, Nat.reduceSub, Zk, Zm, i_describe_Proof, c7_0, c7_1, c7_2, c7_3, c7_4, c7_5, c7_6, c7_7, c7_8, c7_9, hl8, ht8]
  refine RunV.to (whole_ok hfit hsz _ _ hD1) ?_
  have h0 : (σ.push (.cells xs true)).get σ.next = some (.cells xs true) := Vg
  generalize hσ1 : σ.push (.cells xs true) = σ1 at *
  have hle1 : σ1.next = σ.next + 1 := by rw [← hσ1]; rfl
  have hsub1 : ∀ i b, σ.get i = some b → σ1.get i = some b := by rw [← hσ1]; exact sub_push hW _
  have hA := Vg (σ := σ1) (b := .cells [.slice none 0 (some 0) 0] true)
  have hWA := hW1.push (.cells [.slice none 0 (some 0) 0] true)
  have hil : (σ1.push (.cells [.slice none 0 (some 0) 0] true)).next = σ1.next + 1 := rfl
  have hB := Vg (σ := σ1.push (.cells [.slice none 0 (some 0) 0] true)) (b := .cells [tellA σ1.next (σ1.push (.cells [.slice none 0 (some 0) 0] true)).next] true)
  have hWB := hWA.push (.cells [tellA σ1.next (σ1.push (.cells [.slice none 0 (some 0) 0] true)).next] true)
  have h0B : ((σ1.push (.cells [.slice none 0 (some 0) 0] true)).push (.cells [tellA σ1.next (σ1.push (.cells [.slice none 0 (some 0) 0] true)).next] true)).get σ.next = some (.cells xs true) := sub_push hWA _ _ _ (sub_push hW1 _ _ _ h0)
  have hAB := sub_push hWA (.cells [tellA σ1.next (σ1.push (.cells [.slice none 0 (some 0) 0] true)).next] true) _ _ hA
  have hsubB : ∀ i b, σ.get i = some b → ((σ1.push (.cells [.slice none 0 (some 0) 0] true)).push (.cells [tellA σ1.next (σ1.push (.cells [.slice none 0 (some 0) 0] true)).next] true)).get i = some b := fun i b e => sub_push hWA _ _ _ (sub_push hW1 _ _ _ (hsub1 i b e))
  unfold tellA at hB hAB h0B hsubB hWB
  simp -implicitDefEqProofs (maxDischargeDepth := 15) only [↓reduceIte, Yr, Ys, Yt, Wa, Wb, Wg, Wj, Wk, Wl, Wo, Wu, opA, Wv, Wx, Wy, Wz, Va, Za, Zb, Zd, Ze, Vb, Vc, Vd, Ve, AV.cells, Vg, Vn, partA, Zf, Zg, Zh, Zi, Zj, Zk, Zm, Zn, Zp, Zq, Zs, putL, allOne, Zu, Zv, AV.one, Zy, and_self, Yb, eq_self, hl8, ht8, h0B]
  have hnB : ((σ1.push (.cells [.slice none 0 (some 0) 0] true)).push (.cells [.func (.func n_describe_ProofS1) [] [.ptr (some ((σ1.push (.cells [.slice none 0 (some 0) 0] true)).next, 0)), .ptr (some (σ1.next, 0))]] true)).next = σ1.next + 2 := rfl
  generalize ((σ1.push (.cells [.slice none 0 (some 0) 0] true)).push (.cells [.func (.func n_describe_ProofS1) [] [.ptr (some ((σ1.push (.cells [.slice none 0 (some 0) 0] true)).next, 0)), .ptr (some (σ1.next, 0))]] true)) = σ3 at *
  generalize (σ1.push (.cells [.slice none 0 (some 0) 0] true)).next = il at *
  have hT : TOut σ σ1.next il σ3 [] none 0 (some 0) 0 := ⟨hAB, hB, Grown.nil hW hWB hsubB (by omega) _ _ _, by omega, by omega, by omega, by simp, by simp⟩
  refine (tell_ok hpow p.size p (Nat.le_refl _) hfit σ3 [] xs none 0 (some 0) 0 hT (by omega) hD).mono ?_
  rintro u σ4 ⟨rfl, o, c, z, hT4, hK4, ho4⟩
  have hout := hT4.out
  have houtl := hT4.grown.wf.lt hout
  simp -implicitDefEqProofs (maxDischargeDepth := 15) only [Yr, Ys, Yt, Wh, Wj, Wk, Wo, Wu, opA, Wv, Ww, Wx, Wy, Wz, Za, Zb, Vb, partA, Zk, Zq, EndOk, resultA, oneOf, Zz, hout, Zk]
  have hG := hT4.grown
  rw [List.nil_append] at hG
  exact ⟨_, _, _, rfl, by simpa using hG⟩
end Go.Am
namespace Go.Am
open Go.RowKit Go.Proofs Do
set_option maxRecDepth 100000
theorem count_nice {w : Str} (h : (32 : UInt8) ∉ w) : w.count 32 = 0 := List.count_eq_zero.2 h
theorem count_jn : ∀ {ws : List Str}, ws ≠ [] → Nices ws → (jn ws sp).count 32 = ws.length - 1
  | [], h, _ => absurd rfl h
  | [x], _, hn => by rw [jn_one]; exact count_nice (hn x (by simp)).2
  | x :: y :: r, _, hn => by
    rw [jn_cons2, List.count_append, List.count_append, count_nice (hn x (by simp)).2, count_jn (ws := y :: r) (by simp) (fun w hw => hn w (List.mem_cons_of_mem _ hw))]
    simp; omega
theorem index_nice {w r : Str} (h : (32 : UInt8) ∉ w) : Lib.indexByte (w ++ 32 :: r) 32 = w.length := by
  induction w with
  | nil => rfl
  | cons a w ih =>
    simp only [List.mem_cons, not_or] at h
    have h1 : (a == 32) = false := by simp only [beq_eq_false_iff_ne]; exact fun q => h.1 q.symm
    have h2 := ih h.2
    simp only [List.cons_append, Lib.indexByte, h1, h2]
    have h3 : ((w.length : Int) == -1) = false := by simp only [beq_eq_false_iff_ne]; omega
    rw [h3]
    simp
theorem u32 : ((32 : UInt8).toNat : Int) = 32 := rfl
theorem index_ok (s : Str) (σ : AState) : RunF RR Tryz.prog n_strings_Index [.str s, .str sp] σ (fun u σ' => u = .int .i64 (Lib.indexByte s 32) ∧ σ' = σ) := by
  refine runF_intro hmx rf_strings_Index ?_
  simp -implicitDefEqProofs (maxDischargeDepth := 15) only [Yr, Ys, Yt, Wb, Wj, Wk, Wo, opA, Wv, Ww, Wx, Wy, Wz, Za, Zb, List.replicate, Zc, Zd, Ze, Vb, Zf, Zg, Zh, Zi, Nat.reduceAdd, Nat.reduceSub, Zk, i_strings_Index, c40_0, c40_1, c40_2]
  have key : RunF RR Tryz.prog n_stringslite_Index [.str s, .str sp] σ (fun u σ' => u = .int .i64 (Lib.indexByte s 32) ∧ σ' = σ) := by
    refine runF_intro hmx rf_stringslite_Index ?_
    have c1 : (((1 : Nat) : Int) == 0) = false := rfl
    have c2 : (((1 : Nat) : Int) == 1) = true := rfl
    cases hs : (sp == s)
    · simp -implicitDefEqProofs (maxDischargeDepth := 15) only [↓reduceIte, Yr, Ys, Yt, Yv, Yz, Wa, Wb, Wd, Wj, Wk, Wl, Wm, Wo, opA, Wv, Ww, Wx, Wy, Wz, Za, Zb, List.replicate, Zc, Zd, Ze, Vb, Zf, Zg, Zh, Zi, Nat.reduceAdd, Nat.reduceSub, Zk, Zq, binA, Yd, Vu, Vv, Yj, eq_self, Ym, Yn, i_stringslite_Index, c68_0, c68_1, c68_2, c68_3, c68_4, c68_5, c68_6, c68_7, c68_8, c68_9, c68_10, c68_11, c68_12, c68_13, c68_14, c68_15, c68_16, c68_17, c68_18, c68_19, c68_20, c68_21, c68_22, c68_23, c68_24, c68_25, c68_26, c68_27, c68_28, c68_29, c68_30, c68_31, c68_32, c68_33, c68_34, c68_35, c68_36, c68_37, c68_38, c68_39, c68_40, c68_41, c68_42, c68_43, c68_44, c68_45, c68_46, c68_47, c68_48, c68_49, c68_50, c68_51, c68_52, c68_53, c68_54, c68_55, c68_56, c68_57, c1, c2, hs, u32]
      have k2 : RunF RR Tryz.prog n_stringslite_IndexByte [.str s, .int .u8 32] σ (fun u σ' => u = .int .i64 (Lib.indexByte s 32) ∧ σ' = σ) := by
        refine runF_intro hmx rf_stringslite_IndexByte ?_
        simp -implicitDefEqProofs (maxDischargeDepth := 15) only [Yr, Ys, Yt, Wb, Wj, Wk, Wo, opA, Wv, Ww, Wx, Wy, Wz, Za, Zb, List.replicate, Zc, Zd, Ze, Vb, Zf, Zg, Zh, Zi, Nat.reduceAdd, Nat.reduceSub, Zk, i_stringslite_IndexByte, c36_0, c36_1, c36_2]
        refine RunV.to (prim_index Tryz.indexOk) ?_
        simp -implicitDefEqProofs (maxDischargeDepth := 15) only [Yr, Ys, Yt, Wh, Wo, Wu, opA, Wv, Wx, Wy, Wz, Za, Zb, Vb, and_true, EndOk, resultA, oneOf, Zz, eq_self]
        rfl
      refine RunV.to k2 ?_
      simp -implicitDefEqProofs (maxDischargeDepth := 15) only [Yr, Ys, Yt, Wh, Wo, Wq, Wt, Wu, opA, Wv, Wx, Wy, Wz, Za, Zb, Vb, and_self, EndOk, resultA, oneOf, Zz, eq_self]
    · have hs' : s = sp := (eq_of_beq hs).symm
      simp -implicitDefEqProofs (maxDischargeDepth := 15) only [↓reduceIte, Yr, Ys, Yt, Yv, Yz, Wd, Wh, Wj, Wk, Wl, Wm, Wo, Wq, Wt, opA, Wv, Ww, Wx, Wy, Wz, Za, Zb, List.replicate, Zc, Zd, Ze, Vb, Zf, Zg, Nat.reduceAdd, Nat.reduceSub, Zk, binA, and_true, EndOk, resultA, oneOf, Zz, Yd, Vu, Vv, Yj, eq_self, i_stringslite_Index, c68_0, c68_1, c68_2, c68_3, c68_4, c68_5, c68_6, c68_7, c68_8, c68_9, c68_10, c68_11, c68_12, c68_13, c68_14, c68_15, c68_16, c68_17, c68_18, c68_19, c68_20, c68_21, c68_22, c68_23, c68_24, c68_25, c68_26, c68_27, c68_28, c68_29, c68_30, c68_31, c68_32, c68_33, c68_34, c68_35, c68_36, c68_37, c68_38, c68_39, c68_40, c68_41, c68_42, c68_43, c68_44, c68_45, c68_46, c68_47, c68_48, c68_49, c68_50, c68_51, c68_52, c68_53, c68_54, c68_55, c68_56, c68_57, c1, hs]
      rw [hs']; rfl
  refine RunV.to key ?_
  simp -implicitDefEqProofs (maxDischargeDepth := 15) only [Yr, Ys, Yt, Wh, Wo, Wu, opA, Wv, Wx, Wy, Wz, Za, Zb, Vb, and_self, EndOk, resultA, oneOf, Zz, eq_self]
theorem count_ok (s : Str) (σ : AState) : RunF RR Tryz.prog n_strings_Count [.str s, .str sp] σ (fun u σ' => u = .int .i64 (s.count 32 : Nat) ∧ σ' = σ) := by
  refine runF_intro hmx rf_strings_Count ?_
  have c1 : (((1 : Nat) : Int) == 0) = false := rfl
  have c2 : (((1 : Nat) : Int) == 1) = true := rfl
  simp -implicitDefEqProofs (maxDischargeDepth := 15) only [↓reduceIte, Yr, Ys, Yt, Yz, Wa, Wb, Wg, Wj, Wk, Wl, Wo, opA, Wv, Ww, Wx, Wy, Wz, Za, Zb, List.replicate, Zc, Zd, Ze, Vb, Zf, Zg, Zh, Zi, Nat.reduceAdd, Nat.reduceSub, Zk, Zq, binA, eq_self, Ym, Yn, i_strings_Count, c24_0, c24_1, c24_2, c24_3, c24_4, c24_5, c24_6, c24_7, c24_8, c24_9, c24_10, c24_11, c24_12, c24_13, c24_14, c24_15, c24_16, c24_17, c24_18, c24_19, c1, c2, u32]
  refine RunV.to (prim_count Tryz.countOk) ?_
  simp -implicitDefEqProofs (maxDischargeDepth := 15) only [Yr, Ys, Yt, Wh, Wo, Wq, Wu, opA, Wv, Wx, Wy, Wz, Za, Zb, Vb, and_true, EndOk, resultA, oneOf, Zz, eq_self]
  rfl
end Go.Am
namespace Go.Am
open Go.RowKit Go.Proofs Do
set_option maxRecDepth 100000
def splitL (ws : List Str) (i : Nat) : List AV := (ws.take i).map .str ++ List.replicate (ws.length - i) (.str [])
theorem splitL_len (ws : List Str) (i : Nat) (h : i ≤ ws.length) : (splitL ws i).length = ws.length := by simp [splitL]; omega
theorem splitL_put (ws : List Str) (i : Nat) (w : Str) (h : ws[i]? = some w) : (splitL ws i).take i ++ [.str w] ++ (splitL ws i).drop (i + 1) = splitL ws (i + 1) := by
  rw [List.append_assoc, List.singleton_append]
  have hi : i < ws.length := by
    rcases Nat.lt_or_ge i ws.length with q | q
    · exact q
    · rw [List.getElem?_eq_none q] at h; cases h
  unfold splitL
  have h1 : ((ws.take i).map AV.str).length = i := by simp; omega
  rw [List.take_append_of_le_length (by omega), List.take_of_length_le (by omega), List.drop_append, List.drop_eq_nil_of_le (by omega), List.nil_append, h1, List.drop_replicate, List.take_add_one, h]
  simp only [Option.toList, List.map_append, List.map_cons, List.map_nil, List.append_assoc, List.cons_append, List.nil_append]
  congr 3
  omega
theorem replicate_flat (n : Nat) : (List.replicate n [AV.str []]).flatten = List.replicate n (.str []) := by
  induction n with
  | zero => rfl
  | succ n ih => rw [List.replicate_succ, List.flatten_cons, ih, List.replicate_succ]; rfl
theorem split_ok {ws : List Str} (hne : ws ≠ []) (hn : Nices ws) (hl : (jn ws sp).length ≤ 1099511627776) (σ : AState) :
    RunF RR Tryz.prog n_strings_Split [.str (jn ws sp), .str sp] σ (fun u σ' => u = .slice (some (σ.next, 0)) ws.length (some ws.length) 1 ∧ σ' = σ.push (.cells (ws.map .str) true)) := by
  refine runF_intro hmx rf_strings_Split ?_
  simp -implicitDefEqProofs (maxDischargeDepth := 15) only [Yr, Ys, Yt, Wb, Wj, Wk, Wo, opA, Wv, Ww, Wx, Wy, Wz, Za, Zb, List.replicate, Zc, Zd, Ze, Vb, Zf, Zg, Zh, Zi, Nat.reduceAdd, Nat.reduceSub, Zk, i_strings_Split, c61_0, c61_1, c61_2]
  have key : RunF RR Tryz.prog n_strings_genSplit [.str (jn ws sp), .str sp, .int .i64 0, .int .i64 (-1)] σ (fun u σ' => u = .slice (some (σ.next, 0)) ws.length (some ws.length) 1 ∧ σ' = σ.push (.cells (ws.map .str) true)) := by
    refine runF_intro hmx rf_strings_genSplit ?_
    have hN : 1 ≤ ws.length := by cases ws with | nil => exact absurd rfl hne | cons a r => simp
    have hNl := jn_len (l := ws) (s := sp) (by simp)
    have c1 : ((-1 : Int) == 0) = false := rfl
    have c2 : (sp == ([] : Str)) = false := rfl
    have c3 : decide ((-1 : Int) < 0) = true := rfl
    have hcnt := count_jn hne hn
    have w1 : wrapF .i64 (((ws.length - 1 : Nat) : Int) + 1) = (ws.length : Int) := by rw [wrap_i64 (by omega)]; omega
    have w2 : wrapF .i64 (((jn ws sp).length : Int) + 1) = ((jn ws sp).length : Int) + 1 := wrap_i64 (by omega)
    have w3 : wrapF .i64 ((ws.length : Int) - 1) = ((ws.length - 1 : Nat) : Int) := by rw [wrap_i64 (by omega)]; omega
    have c4 : ¬ (((jn ws sp).length : Int) + 1 < (ws.length : Int)) := by omega
    have c5 : ws.length * 16 ≤ 281474976710656 := by omega
    simp -implicitDefEqProofs (maxDischargeDepth := 15) only [↓reduceIte, Yr, Ys, Yt, Yz, Wa, Wb, Wg, Wj, Wk, Wl, Wo, opA, Wv, Ww, Wx, Wy, Wz, Za, Zb, List.replicate, Zc, Zd, Ze, Vb, Zf, Zg, Zh, Zi, Nat.reduceAdd, Nat.reduceSub, Zk, binA, eq_self, i_strings_genSplit, c69_0, c69_1, c69_2, c69_3, c69_4, c69_5, c69_6, c69_7, c69_8, c69_9, c69_10, c69_11, c69_12, c69_13, c69_14, c69_15, c69_16, c69_17, c69_18, c69_19, c69_20, c69_21, c69_22, c69_23, c69_24, c69_25, c69_26, c69_27, c69_28, c69_29, c1, c2, c3]
    refine RunV.to (count_ok _ _) ?_
    rw [hcnt]
    simp -implicitDefEqProofs (maxDischargeDepth := 15) only [↓reduceIte, Yr, Ys, Yt, Wj, Wk, Wm, Wo, Wu, opA, Wv, Ww, Wx, Wy, Wz, Za, Zb, Vb, Vc, Vd, Zf, Zg, Zh, Zi, Zj, Zk, binA, and_self, natOf, eq_self, w1, w2, w3, minA, c4, c5, replicate_flat, show (0 < 1) = True from by simp, show (0 < 16) = True from by simp]
    refine wp_loopK (fun ts σ' m => ∃ i : Nat, i + m + 1 = ws.length ∧ σ' = σ.push (.cells (splitL ws i) true) ∧ ∃ j4 j5 j6 j7 j8 j11 j12 j13 j14 j15 j16 j17 j18 j19 j20 j21 j22 j23 j24 j25 j26 j27 j28 j29 j30 j31 j32 j33 j34 j35 j36 j37 j38 j39 j40 j41 j42 j43 j44 j45 j46 j47 j48 j49 j50 j51 j52 j53 j54 j55 j56 j57 j58 j59 j60 j61 j62 j63 j64 j65 : AV, ts = [.str (jn (ws.drop i) sp), .str sp, .int .i64 0, .int .i64 ((ws.length - 1 : Nat) : Int), j4, j5, j6, j7, j8, .slice (some (σ.next, 0)) ws.length (some ws.length) 1, .int .i64 i, j11, j12, j13, j14, j15, j16, j17, j18, j19, j20, j21, j22, j23, j24, j25, j26, j27, j28, j29, j30, j31, j32, j33, j34, j35, j36, j37, j38, j39, j40, j41, j42, j43, j44, j45, j46, j47, j48, j49, j50, j51, j52, j53, j54, j55, j56, j57, j58, j59, j60, j61, j62, j63, j64, j65]) (ws.length - 1) ⟨0, by omega, by simp [splitL], _, _, _, _, _, _, _, _, _, _, _, _, _, _, _, _, _, _, _, _, _, _, _, _, _, _, _, _, _, _, _, _, _, _, _, _, _, _, _, _, _, _, _, _, _, _, _, _, _, _, _, _, _, _, _, _, _, _, _, _, rfl⟩ ?_
    rintro m ts σ' ⟨i, hi, rfl, j4, j5, j6, j7, j8, j11, j12, j13, j14, j15, j16, j17, j18, j19, j20, j21, j22, j23, j24, j25, j26, j27, j28, j29, j30, j31, j32, j33, j34, j35, j36, j37, j38, j39, j40, j41, j42, j43, j44, j45, j46, j47, j48, j49, j50, j51, j52, j53, j54, j55, j56, j57, j58, j59, j60, j61, j62, j63, j64, j65, rfl⟩
    have hsl := splitL_len ws i (by omega)
    obtain ⟨w, hw⟩ : ∃ w, ws[i]? = some w := ⟨ws[i]'(by omega), List.getElem?_eq_getElem _⟩
    have hdr : ws.drop i = w :: ws.drop (i + 1) := by
      rw [List.drop_eq_getElem_cons (by omega)]
      congr 1
      rw [List.getElem?_eq_getElem (by omega)] at hw; cases hw; rfl
    have e1 : (0 : Int) ≤ (i : Int) ∧ (i : Int) < (ws.length : Int) := by omega
    have e2 : i + 1 ≤ ws.length := by omega
    by_cases hlt : i < ws.length - 1
    · have d1 : decide ((i : Int) < ((ws.length - 1 : Nat) : Int)) = true := decide_eq_true (by omega)
      have hnn : ws.drop (i + 1) ≠ [] := by
        intro q; have := congrArg List.length q; simp at this; omega
      have hs : jn (ws.drop i) sp = w ++ 32 :: jn (ws.drop (i + 1)) sp := by rw [hdr, jn_to w hnn]; simp
      have hwn : (32 : UInt8) ∉ w := (hn w (List.mem_of_getElem? hw)).2
      have hix := index_nice (r := jn (ws.drop (i + 1)) sp) hwn
      have hwl : w.length ≤ (jn ws sp).length := jn_le_mem (List.mem_of_getElem? hw)
      rw [hs]
      simp -implicitDefEqProofs (maxDischargeDepth := 15) only [↓reduceIte, Yr, Ys, Yt, Yz, Wb, Wg, Wj, Wk, Wl, Wm, Wo, opA, Wv, Ww, Wx, Wy, Wz, Za, Zb, Vb, Zh, Zi, binA, eq_self, d1]
      refine RunV.to (index_ok _ _) ?_
      rw [hix]
      have d2 : decide ((w.length : Int) < 0) = false := decide_eq_false (by omega)
      have w4 : wrapF .i64 ((w.length : Int) + 0) = (w.length : Int) := by rw [wrap_i64 (by omega)]; omega
      have w5 : wrapF .i64 ((w.length : Int) + ((1 : Nat) : Int)) = ((w.length + 1 : Nat) : Int) := by rw [wrap_i64 (by omega)]; rfl
      have w6 : wrapF .i64 ((i : Int) + 1) = ((i + 1 : Nat) : Int) := by rw [wrap_i64 (by omega)]; rfl
      have t1 : (w ++ 32 :: jn (ws.drop (i + 1)) sp).take w.length = w := by simp
      have t2 : (((w ++ 32 :: jn (ws.drop (i + 1)) sp).take (w.length + ((jn (ws.drop (i + 1)) sp).length + 1))).drop (w.length + 1)) = jn (ws.drop (i + 1)) sp := by
        rw [List.take_of_length_le (by simp)]
        simp [List.drop_append]
      simp -implicitDefEqProofs (maxDischargeDepth := 15) only [↓reduceIte, Yr, Ys, Yt, Wa, Wg, Wj, Wk, Wl, Wo, Wu, opA, Wv, Ww, Wx, Wy, Wz, Za, Zb, Vb, Zf, binA, Zz, natOf, upTo, bMax, bHigh, bLow, boundsA, evO, Yh, Yi, eq_self, d2, w4, List.length_append, Nat.sub_zero]
      have l4 : w.length ≤ w.length + ((jn (ws.drop (i + 1)) sp).length + 1) := by omega
      have l5 : w.length + 1 ≤ w.length + ((jn (ws.drop (i + 1)) sp).length + 1) := by omega
      simp -implicitDefEqProofs (maxDischargeDepth := 15) only [↓reduceIte, Yr, Ys, Yt, Wj, Wk, Wo, Wr, opA, Wv, Ww, Wx, Wy, Wz, Va, Za, Zb, Vb, Vc, Ve, AV.cells, Vg, Vn, Zf, Zg, Zk, Zm, binA, putL, allOne, Zu, Zv, AV.one, Zy, and_self, Zz, Yf, natOf, upTo, bMax, bHigh, bLow, boundsA, evO, eq_self, l4, l5, w5, w6, t1, t2, List.length_append, e1, e2, hsl, Nat.mul_one, lk_n, splitL_put ws i w hw]
      exact ⟨m - 1, by omega, i + 1, by omega, rfl, _, _, _, _, _, _, _, _, _, _, _, _, _, _, _, _, _, _, _, _, _, _, _, _, _, _, _, _, _, _, _, _, _, _, _, _, _, _, _, _, _, _, _, _, _, _, _, _, _, _, _, _, _, _, _, _, _, _, _, _, rfl⟩
    · have d1 : decide ((i : Int) < ((ws.length - 1 : Nat) : Int)) = false := decide_eq_false (by omega)
      have hiN : i + 1 = ws.length := by omega
      have hlast : jn (ws.drop i) sp = w := by
        rw [hdr, List.drop_eq_nil_of_le (show ws.length ≤ i + 1 by omega), jn_one]
      rw [hlast]
      have w6 : wrapF .i64 ((i : Int) + 1) = ((i + 1 : Nat) : Int) := by rw [wrap_i64 (by omega)]; rfl
      have hfin : splitL ws ws.length = ws.map .str := by unfold splitL; rw [List.take_length, Nat.sub_self]; simp
      simp -implicitDefEqProofs (maxDischargeDepth := 15) only [↓reduceIte, Yr, Ys, Yt, Wa, Wh, Wi, Wj, Wk, Wl, Wo, Wp, Ws, opA, Wv, Ww, Wx, Wy, Wz, Va, Za, Zb, Vb, Vc, Ve, AV.cells, Vg, Vn, Zf, Zg, Zk, Zl, binA, putL, allOne, Zu, Zv, AV.one, Zy, and_self, EndOk, resultA, oneOf, Zz, reduceCtorEq, Yf, natOf, upTo, bMax, bHigh, bLow, boundsA, evO, Yh, Yi, eq_self, or_true, d1, w6, e1, e2, hsl, Nat.mul_one, Nat.sub_zero, lk_e, splitL_put ws i w hw]
      simp only [hiN, hfin]
      exact ⟨trivial, trivial⟩
  refine RunV.to key ?_
  simp -implicitDefEqProofs (maxDischargeDepth := 15) only [Yr, Ys, Yt, Wh, Wo, Wu, opA, Wv, Wx, Wy, Wz, Za, Zb, Vb, and_self, EndOk, resultA, oneOf, Zz, eq_self]
end Go.Am
