/-
  A PART of the proof: ApShelf, ApAwake, ApW8, ApW9, ApW10, ApW11, ApW12, ApW13, ApW14, ApW15, ApW16, ApW17, ApW18, ApW19, ApW25, ApW26.
-/
import Derived.Room.Shelf.Join48
import Derived.Shelf.Strings.Cut
import Derived.Shelf.Strings.Search3
import Derived.WalkSmall
import Derived.Test.YtndfemigjgpdlaaGreatDoorT02
import Derived.Test.YtndfemigjgpdlaaGreatDoorT05
set_option linter.unusedSimpArgs false
set_option linter.unusedVariables false
namespace Go.Proofs
open Go.Shelf
def Tryz.lays156_ren : Go.Shelf.Ren := ⟨fun | 156 => 32 | 165 => 56 | 166 => 57 | 169 => 58 | 240 => 98 | 241 => 99 | 276 => 133 | 277 => 134 | n => n, fun | 31 => 40 | 9 => 9 | 3 => 3 | 4 => 4 | 0 => 0 | 20 => 20 | 72 => 112 | 76 => 116 | 70 => 110 | 37 => 22 | 75 => 115 | 127 => 156 | 164 => 179 | 5 => 5 | 80 => 118 | n => n, fun | n => n⟩
theorem Tryz.lays156 : Go.Proofs.Lays.n156 Tryz.prog Tryz.lays156_ren := {
  mixed := by kernel_rfl
  f156 := Tryz.func32.trans (congrArg some (by kernel_rfl))
  f165 := Tryz.func56.trans (congrArg some (by kernel_rfl))
  f166 := Tryz.func57.trans (congrArg some (by kernel_rfl))
  f169 := Tryz.func58.trans (congrArg some (by kernel_rfl))
  f240 := Tryz.func98.trans (congrArg some (by kernel_rfl))
  f241 := Tryz.func99.trans (congrArg some (by kernel_rfl))
  f276 := Tryz.func133.trans (congrArg some (by kernel_rfl))
  f277 := Tryz.func134.trans (congrArg some (by kernel_rfl))
  t0 := Tryz.underlying0
  a0 := Tryz.isAgg0
  z0 := Tryz.sizeOf0
  v0 := Tryz.zeroValue0
  t3 := Tryz.underlying3
  a3 := Tryz.isAgg3
  z3 := Tryz.sizeOf3
  v3 := Tryz.zeroValue3
  t4 := Tryz.underlying4
  a4 := Tryz.isAgg4
  z4 := Tryz.sizeOf4
  v4 := Tryz.zeroValue4
  t9 := Tryz.underlying9
  a9 := Tryz.isAgg9
  z9 := Tryz.sizeOf9
  v9 := Tryz.zeroValue9
  t20 := Tryz.underlying20
  a20 := Tryz.isAgg20
  z20 := Tryz.sizeOf20
  v20 := Tryz.zeroValue20
  t31 := Tryz.underlying40
  a31 := Tryz.isAgg40
  z31 := Tryz.sizeOf40
  v31 := Tryz.zeroValue40
  t37 := Tryz.underlying22
  a37 := Tryz.isAgg22
  z37 := Tryz.sizeOf22
  v37 := Tryz.zeroValue22
  t70 := Tryz.underlying110
  a70 := Tryz.isAgg110
  z70 := Tryz.sizeOf110
  v70 := Tryz.zeroValue110
  t72 := Tryz.underlying112
  a72 := Tryz.isAgg112
  z72 := Tryz.sizeOf112
  v72 := Tryz.zeroValue112
  t75 := Tryz.underlying115
  a75 := Tryz.isAgg115
  z75 := Tryz.sizeOf115
  v75 := Tryz.zeroValue115
  t76 := Tryz.underlying116
  a76 := Tryz.isAgg116
  z76 := Tryz.sizeOf116
  v76 := Tryz.zeroValue116
  t127 := Tryz.underlying156
  a127 := Tryz.isAgg156
  z127 := Tryz.sizeOf156
  v127 := Tryz.zeroValue156
  t164 := Tryz.underlying179
  a164 := Tryz.isAgg179
  z164 := Tryz.sizeOf179
  v164 := Tryz.zeroValue179 }
theorem Tryz.Builder_Extra_156 : Builder.Extra Tryz.prog Tryz.lays156_ren := {
  sizeBuilder := by kernel_rfl
  liesBuilder := by kernel_rfl
  t5 := Tryz.underlying5
  a5 := Tryz.isAgg5
  z5 := Tryz.sizeOf5
  v5 := Tryz.zeroValue5
  infoByte := by kernel_rfl
  cellsByte := by kernel_rfl
  sizeByte := by kernel_rfl
  neB5 := by decide }
theorem Tryz.joinOk : Go.Am.JoinOk Tryz.prog 32 where
  fn := ⟨_, Tryz.func32, by kernel_rfl, by kernel_rfl⟩
  zero a c sep w := Any.strings_Join_none Tryz.lays156 Tryz.Builder_Extra_156 a c sep w
  many bk o c xs sep w h1 h2 h3 h4 h5 := Any.strings_Join_48 Tryz.lays156 Tryz.Builder_Extra_156 bk o c xs sep w h1 h2 h3 h4 h5
theorem Tryz.countOk : Go.Am.ExternOk Tryz.prog 145 Extern.BytealgCount.count where
  fn := ⟨_, Tryz.func145, by kernel_rfl, by kernel_rfl, by kernel_rfl, by kernel_rfl⟩
theorem Tryz.indexOk : Go.Am.ExternOk Tryz.prog 172 Extern.BytealgIndexByte.indexByte where
  fn := ⟨_, Tryz.func172, by kernel_rfl, by kernel_rfl, by kernel_rfl, by kernel_rfl⟩
end Go.Proofs
namespace Go.Am
open Go.RowKit Go.Proofs Go.Shelf
end Go.Am
namespace Go.Am
open Go.Proofs
set_option maxRecDepth 100000
def prT : Prims := { join := 32, count := 145, index := 172 }
theorem callOk (lf n : Nat) : CallOk Tryz.prog (evCall tabT.get (primE prT) lf n) :=
  evCall_ok (by kernel_rfl) (trOk_get tabT id tabOk) (primE_ok Tryz.joinOk Tryz.countOk Tryz.indexOk) lf n
theorem closed_ok {f lf n : Nat} {v : AV} {r : Option (AV × EState)} (hv : AV.flat v = true) (hr : evCall tabT.get (primE prT) lf n (.func (.func f) [] []) [] ⟨.nil, Tryz.prog.globals.size⟩ = r) (h : r.map (·.1) = some v) (σ : AState) :
    RunF (RsOf Tryz.prog) Tryz.prog f [] σ (fun u σ' => u = v ∧ σ' = σ) := by
  cases r with
  | none => cases h
  | some p =>
    obtain ⟨v', τ⟩ := p
    simp only [Option.map_some, Option.some.injEq] at h
    subst h
    exact RunF.closed hv ((callOk lf n _ _ _ _ _ hr).mono fun u σ' hh => hh.1) σ
end Go.Am
namespace Go.Am
open Go.RowKit Go.Proofs Do
set_option maxRecDepth 100000
abbrev fnA (n : Nat) : AV := .func (.func n) [] []
abbrev iA (n : Int) : AV := .int .i64 n
def rowsL : List AV := [.nilFunc, iA 0, iA 0, iA 0, fnA n_syntax_Predicate, iA 4, iA 0, iA 0, fnA n_syntax_none, iA 0, iA 0, iA 0, fnA n_syntax_none, iA 0, iA 1, iA 0,
  fnA n_syntax_none, iA 0, iA 2, iA 0, fnA n_syntax_none, iA 0, iA 2, iA 0, fnA n_syntax_none, iA 0, iA 2, iA 0, fnA n_syntax_none, iA 0, iA 2, iA 0,
  fnA n_syntax_Variable, iA 0, iA 1, iA 0, fnA n_syntax_Variable, iA 0, iA 1, iA 0, fnA n_syntax_none, iA 0, iA 1, iA 0, fnA n_syntax_none, iA 0, iA 1, iA 0, fnA n_syntax_none, iA 0, iA 1, iA 0, fnA n_syntax_none, iA 0, iA 1, iA 0,
  fnA n_syntax_none, iA 0, iA 2, iA 0, fnA n_syntax_ofForms, iA 0, iA 0, iA 1, fnA n_syntax_ofForms, iA 2, iA 0, iA 1]
theorem rows_ok (σ : AState) : RunF RR Tryz.prog n_syntax_rows [] σ (fun u σ' => u = .agg rowsL ∧ σ' = σ) :=
  closed_ok (lf := 100) (n := 100) rfl rfl (by kernel_rfl) σ
mutual
def Do.F.sane : F → Prop
  | .mk op n ar l => op < 256 ∧ n.length ≤ 1125899906842624 ∧ T.lens ar ≤ 1125899906842624 ∧ F.sanes l
def Do.F.sanes : List F → Prop
  | [] => True
  | f :: r => f.sane ∧ F.sanes r
end
theorem sane_mem {l : List F} (h : F.sanes l) {f : F} (hf : f ∈ l) : f.sane := by
  induction l with
  | nil => cases hf
  | cons a r ih =>
    simp only [F.sanes] at h
    rcases List.mem_cons.1 hf with e | e
    · subst e; exact h.1
    · exact ih h.2 e
theorem shapes_all (l : List F) : F.shapes l = !l.any (fun t => !t.shape) := by
  induction l with
  | nil => rfl
  | cons a r ih => simp only [F.shapes, ih, List.any_cons]; cases a.shape <;> simp
def RowIs (op nf a s sch : Nat) : Prop := (rowsL.drop (op * 4)).take 4 = [fnA nf, iA a, iA s, iA sch] ∧ rowsL[op * 4]? = some (fnA nf) ∧
  (sch = 1 ∧ row op = none ∨ sch = 0 ∧ op ≠ 16 ∧ ∃ k, row op = some (k, a, s) ∧ ∀ (nm : Str) (σ : AState), nm.length ≤ 1125899906842624 → RunF RR Tryz.prog nf [.str nm] σ (fun u σ' => u = .bool (nameK k nm) ∧ σ' = σ))
theorem rowIs_none {op a s : Nat} (h1 : (rowsL.drop (op * 4)).take 4 = [fnA n_syntax_none, iA a, iA s, iA 0]) (h2 : rowsL[op * 4]? = some (fnA n_syntax_none)) (h3 : row op = some (0, a, s)) (h4 : op ≠ 16) : ∃ nf a s sch, RowIs op nf a s sch :=
  ⟨_, a, s, 0, h1, h2, .inr ⟨rfl, h4, 0, h3, fun nm σ _ => none_ok nm σ⟩⟩
theorem rowIs_var {op a s : Nat} (h1 : (rowsL.drop (op * 4)).take 4 = [fnA n_syntax_Variable, iA a, iA s, iA 0]) (h2 : rowsL[op * 4]? = some (fnA n_syntax_Variable)) (h3 : row op = some (2, a, s)) (h4 : op ≠ 16) : ∃ nf a s sch, RowIs op nf a s sch :=
  ⟨_, a, s, 0, h1, h2, .inr ⟨rfl, h4, 2, h3, fun nm σ h => var_ok nm (by omega) σ⟩⟩
theorem rowIs_all : ∀ op, op < 17 → op ≠ 0 → ∃ nf a s sch, RowIs op nf a s sch
  | 0, _, h => absurd rfl h
  | 1, _, _ => ⟨_, 4, 0, 0, rfl, rfl, .inr ⟨rfl, by decide, 1, rfl, fun nm σ h => pred_ok nm (by omega) σ⟩⟩
  | 2, _, _ => rowIs_none (a := 0) (s := 0) rfl rfl rfl (by decide)
  | 3, _, _ => rowIs_none (a := 0) (s := 1) rfl rfl rfl (by decide)
  | 4, _, _ => rowIs_none (a := 0) (s := 2) rfl rfl rfl (by decide)
  | 5, _, _ => rowIs_none (a := 0) (s := 2) rfl rfl rfl (by decide)
  | 6, _, _ => rowIs_none (a := 0) (s := 2) rfl rfl rfl (by decide)
  | 7, _, _ => rowIs_none (a := 0) (s := 2) rfl rfl rfl (by decide)
  | 8, _, _ => rowIs_var (a := 0) (s := 1) rfl rfl rfl (by decide)
  | 9, _, _ => rowIs_var (a := 0) (s := 1) rfl rfl rfl (by decide)
  | 10, _, _ => rowIs_none (a := 0) (s := 1) rfl rfl rfl (by decide)
  | 11, _, _ => rowIs_none (a := 0) (s := 1) rfl rfl rfl (by decide)
  | 12, _, _ => rowIs_none (a := 0) (s := 1) rfl rfl rfl (by decide)
  | 13, _, _ => rowIs_none (a := 0) (s := 1) rfl rfl rfl (by decide)
  | 14, _, _ => rowIs_none (a := 0) (s := 2) rfl rfl rfl (by decide)
  | 15, _, _ => ⟨_, 0, 0, 1, rfl, rfl, .inl ⟨rfl, rfl⟩⟩
  | 16, _, _ => ⟨_, 2, 0, 1, rfl, rfl, .inl ⟨rfl, rfl⟩⟩
  | n + 17, h, _ => absurd h (by omega)
theorem shape_ok : ∀ (m : Nat) (f : F), f.nodes ≤ m → m ≤ 1152921504606846976 → f.sane → ∀ (σ : AState) (xs : List AV), DAtL σ.get f.dv xs →
    RunF RR Tryz.prog n_syntax_shape [.agg xs, .int .i64 0] σ (fun u σ' => u = .bool f.shape ∧ σ' = σ) := by
  intro m
  induction m using Nat.strongRecOn with
  | _ m ih =>
  intro f hf hm hs σ xs hD
  refine RunV.wf fun hW => RunV.forget rfl ?_
  refine runF_intro hmx rf_syntax_shape ?_
  obtain ⟨op, nm, ar, l⟩ := f
  obtain ⟨o1, c1, z1, o2, c2, z2, rfl, hA, hL⟩ := F.cells hD
  simp only [F.nodes] at hf
  simp only [F.sane] at hs
  have hcl := cnts_len ar
  have hnl := nodess_len l
  have hw : wrapF .i64 (op : Int) = op := wrap_i64 (by omega)
  have hW1 := hW.push (.cells [.int .u8 op, .str nm, .slice o1 ar.length c1 z1, .slice o2 l.length c2 z2] true)
  have hW2 := hW1.push (.cells [.int .i64 0] true)
  have hW3 := hW2.push (.cells rowsL true)
  have hE := (sub_push hW (.cells [.int .u8 op, .str nm, .slice o1 ar.length c1 z1, .slice o2 l.length c2 z2] true)).trans ((sub_push hW1 (.cells [.int .i64 0] true)).trans (sub_push hW2 (.cells rowsL true)))
  simp -implicitDefEqProofs (maxDischargeDepth := 15) only [Yr, Ys, Yt, Wb, Wj, Wk, Wo, opA, Wv, Ww, Wx, Wy, Wz, Za, Zb, List.replicate, Zc, Zd, Ze, Vb, Vc, Vd, AV.cells, Zf, Zg, Zi, Nat.reduceAdd, Nat.reduceSub, Zk, i_syntax_shape, c1_0, c1_1, c1_2, c1_3, c1_4, c1_5, c1_6, c1_7, c1_8, c1_9, c1_10, c1_11, c1_12, c1_13, c1_14, c1_15, c1_16, c1_17, c1_18]
  refine RunV.to (rows_ok _) ?_
  have hlr : rowsL.length = 68 := rfl
  have hall : (rowsL.all fun x => x.one) = true := rfl
  rcases Nat.lt_or_ge op 17 with h17 | h17
  · have h1 : decide ((op : Int) ≥ 17) = false := decide_eq_false (by omega)
    have e1 : (0 : Int) ≤ (op : Int) ∧ (op : Int) < (17 : Nat) := by omega
    have e2 : (op : Int).toNat = op := Int.toNat_natCast op
    rcases Nat.eq_zero_or_pos op with h0 | hp
    · have r0 : rowsL[op * 4]? = some .nilFunc := by subst h0; rfl
      have hr : row op = none := by subst h0; rfl
      simp -implicitDefEqProofs (maxDischargeDepth := 15) only [↓reduceIte, Yr, Ys, Yt, Yv, Yz, Wd, Wh, Wj, Wk, Wl, Wo, Wq, Wu, opA, Wv, Ww, Wx, Wy, Wz, Va, Za, Zb, Zd, Ze, Vb, Vc, Vd, Ve, AV.cells, Vg, Vh, Vi, Vj, Vn, partA, Zf, Zg, Nat.reduceAdd, Zj, Zk, Zl, Zn, Zp, Zq, Zs, binA, eqA, nilEq, putL, allOne, and_self, EndOk, resultA, oneOf, Zz, Yd, Vu, Vv, Yj, eq_self, hlr, hw, h1, e1, e2, hall, r0]
      exact ⟨by simp only [F.shape, hr], hE⟩
    obtain ⟨nf, a, s, sch, q1, q2, q3⟩ := rowIs_all op h17 (by omega)
    have q4 : op * 4 + 4 ≤ 68 := by omega
    have g0 : ((((σ.push (.cells [.int .u8 op, .str nm, .slice o1 ar.length c1 z1, .slice o2 l.length c2 z2] true)).push (.cells [.int .i64 0] true)).push (.cells rowsL true)).push (.cells [fnA nf, iA a, iA s, iA sch] true)).get (σ.push (.cells [.int .u8 op, .str nm, .slice o1 ar.length c1 z1, .slice o2 l.length c2 z2] true)).next = some (.cells [.int .i64 0] true) := by
      rw [Vh (by simp only [AState.push_next]; omega), Vh (by simp only [AState.push_next]; omega), Vg]
    have g1 : ((((σ.push (.cells [.int .u8 op, .str nm, .slice o1 ar.length c1 z1, .slice o2 l.length c2 z2] true)).push (.cells [.int .i64 0] true)).push (.cells rowsL true)).push (.cells [fnA nf, iA a, iA s, iA sch] true)).get σ.next = some (.cells [.int .u8 op, .str nm, .slice o1 ar.length c1 z1, .slice o2 l.length c2 z2] true) := by
      rw [Vh (by simp only [AState.push_next]; omega), Vh (by simp only [AState.push_next]; omega), Vh (by simp only [AState.push_next]; omega), Vg]
    have hE4 := hE.trans (sub_push hW3 (.cells [fnA nf, iA a, iA s, iA sch] true))
    rcases q3 with ⟨rfl, hr⟩ | ⟨rfl, h16, k, hr, hrun⟩
    · simp -implicitDefEqProofs (maxDischargeDepth := 15) only [↓reduceIte, Yr, Ys, Yt, Yv, Yw, Yz, Wa, Wd, We, Wg, Wh, Wj, Wk, Wl, Wo, Wq, Wu, opA, Wv, Ww, Wx, Wy, Wz, Va, Za, Zb, Zd, Ze, Vb, Vc, Vd, Ve, AV.cells, Vg, Vh, Vi, Vj, Vn, partA, Zf, Zg, Nat.reduceAdd, Zj, Zk, Zl, Zn, Zp, Zq, Zr, Zs, binA, eqA, nilEq, putL, allOne, Zu, Zv, AV.one, Zy, and_self, EndOk, resultA, oneOf, Zz, Yd, Vu, Vv, Yj, eq_self, Vy, hlr, hw, h1, e1, e2, hall, q1, q2, q4, show decide (((1 : Nat) : Int) > 0) = true from rfl]
      exact ⟨by simp only [F.shape, hr], hE4⟩
    · have hd0 : decide (((0 : Nat) : Int) > 0) = false := rfl
      simp -implicitDefEqProofs (maxDischargeDepth := 15) only [↓reduceIte, Yr, Ys, Yt, Yv, Wa, Wb, Wd, We, Wg, Wj, Wk, Wl, Wo, Wu, opA, Wv, Ww, Wx, Wy, Wz, Va, Za, Zb, Zd, Ze, Vb, Vc, Vd, Ve, AV.cells, Vg, Vh, Vi, Vj, Vn, partA, Zf, Zg, Zh, Zi, Nat.reduceAdd, Zj, Zk, Zl, Zn, Zp, Zq, Zr, Zs, binA, eqA, nilEq, putL, allOne, Zu, Zv, AV.one, Zy, and_self, Yd, Vu, Vv, Yj, eq_self, hlr, hw, h1, e1, e2, hall, q1, q2, q4, hd0]
      have g2 : ((((σ.push (.cells [.int .u8 op, .str nm, .slice o1 ar.length c1 z1, .slice o2 l.length c2 z2] true)).push (.cells [.int .i64 0] true)).push (.cells rowsL true)).push (.cells [fnA nf, iA a, iA s, iA ((0 : Nat) : Int)] true)).get (((σ.push (.cells [.int .u8 op, .str nm, .slice o1 ar.length c1 z1, .slice o2 l.length c2 z2] true)).push (.cells [.int .i64 0] true)).push (.cells rowsL true)).next = some (.cells [fnA nf, iA a, iA s, iA ((0 : Nat) : Int)] true) := Vg
      have hW4 := hW3.push (.cells [fnA nf, iA a, iA s, iA ((0 : Nat) : Int)] true)
      generalize (((σ.push (.cells [.int .u8 op, .str nm, .slice o1 ar.length c1 z1, .slice o2 l.length c2 z2] true)).push (.cells [.int .i64 0] true)).push (.cells rowsL true)).push (.cells [fnA nf, iA a, iA s, iA ((0 : Nat) : Int)] true) = σ4 at *
      refine RunV.to (hrun nm _ hs.2.1) ?_
      cases hn : nameK k nm
      · simp -implicitDefEqProofs (maxDischargeDepth := 15) only [↓reduceIte, Yr, Ys, Yt, Yv, Yw, Yz, Wd, Wh, Wj, Wk, Wl, Wo, Wq, Wu, opA, Wv, Ww, Wx, Wy, Wz, Za, Zb, Vb, EndOk, resultA, oneOf, Zz, Yc, Yd, Vu, Vv, Yj, eq_self, Vy]
        exact ⟨by simp only [F.shape, hr, hn]; simp, hE4⟩
      cases ha : decide ((ar.length : Int) > (a : Int))
      case true =>
        simp -implicitDefEqProofs (maxDischargeDepth := 15) only [↓reduceIte, Yr, Ys, Yt, Yv, Yw, Yz, Wd, Wh, Wj, Wk, Wl, Wo, Wq, Wu, opA, Wv, Ww, Wx, Wy, Wz, Za, Zb, Vb, partA, Zk, Zq, Zr, binA, EndOk, resultA, oneOf, Zz, Yb, Yd, Vu, Vv, Yj, eq_self, Vy, g1, g2, ha]
        have : decide (ar.length ≤ a) = false := by simp only [decide_eq_true_eq, decide_eq_false_iff_not] at ha ⊢; omega
        exact ⟨by simp only [F.shape, hr, this]; simp, hE4⟩
      have ha' : decide (ar.length ≤ a) = true := by simp only [decide_eq_true_eq, decide_eq_false_iff_not] at ha ⊢; omega
      cases hl : ((l.length : Int) != (s : Int))
      case true =>
        simp -implicitDefEqProofs (maxDischargeDepth := 15) only [↓reduceIte, Yr, Ys, Yt, Yv, Yz, Wd, Wh, Wj, Wk, Wl, Wo, Wq, Wu, opA, Wv, Ww, Wx, Wy, Wz, Za, Zb, Vb, partA, Zk, Zq, Zr, binA, EndOk, resultA, oneOf, Zz, Yb, Yd, Vu, Vv, Yj, eq_self, g1, g2, ha, hl]
        have : (l.length == s) = false := by
          simp only [bne_iff_ne, ne_eq, beq_eq_false_iff_ne] at hl ⊢; omega
        exact ⟨by simp only [F.shape, hr, this]; simp, hE4⟩
      have hl' : (l.length == s) = true := by
        simp only [bne_eq_false_iff_eq, beq_iff_eq] at hl ⊢; omega
      have h16' : ((op : Int) == 16) = false := by
        simp only [beq_eq_false_iff_ne]; omega
      simp -implicitDefEqProofs (maxDischargeDepth := 15) only [↓reduceIte, Yr, Ys, Yt, Yv, Wa, Wb, Wd, Wg, Wj, Wk, Wl, Wo, Wu, opA, Wv, Ww, Wx, Wy, Wz, Za, Zb, Vb, partA, Zh, Zi, Zk, Zl, Zq, Zr, binA, Yb, Yd, Vu, Vv, Yj, eq_self, g1, g2, ha, hl, h16']
      have hA' := hA.sub hE4
      have hL' := hL.sub hE4
      refine RunV.to (containsFunc_ok hmx (sz := 3) (ld := some 3) rf_slices_ContainsFunc_api_Term rf_slices_IndexFunc_api_Term (xs := ar) (q := fun t => !t.right) rfl (by omega) hA'.2.1 fun k x hx => ?_) ?_
      · obtain ⟨rfl, i, off, cs, w, rfl, hg, hl3, xs, hxs, hd⟩ := hA'.elem hx
        refine ⟨.agg xs, ⟨i, off, cs, w, rfl, hg, ?_⟩, ?_⟩
        · simp only [partA]; rw [if_pos hl3, hxs]
        · have hxm := List.mem_of_getElem? hx
          have hc := cnts_mem hxm
          have hl := lens_mem hxm
          refine RunV.wf fun hW5 => RunV.forget rfl ?_
          refine runF_intro hmx rf_syntax_shapeS1 ?_
          have hl : 3 ≤ xs.length := by rw [hd.length, T.dv_len]; omega
          have ht3 : xs.take 3 = xs := List.take_of_length_le (by rw [hd.length, T.dv_len]; omega)
          have hb : (σ4.push (.cells xs true)).get (σ.push (.cells [.int .u8 op, .str nm, .slice (some (i, off)) ar.length c1 3, .slice o2 l.length c2 z2] true)).next = some (.cells [.int .i64 0] true) := by
            rw [Vh (hW5.lt g0)]; exact g0
          simp -implicitDefEqProofs (maxDischargeDepth := 15) only [↓reduceIte, Yr, Ys, Yt, Wb, Wj, Wk, Wo, opA, Wv, Ww, Wx, Wy, Wz, Za, Zb, List.replicate, Zc, Zd, Vb, Vc, Vd, AV.cells, Vg, partA, Zf, Zg, Zh, Zi, Nat.reduceAdd, Nat.reduceSub, Zk, Zm, Zq, i_syntax_shapeS1, c98_0, c98_1, c98_2, hl, ht3, hb]
          refine RunV.to (term_ok x.cnt x (Nat.le_refl _) (by omega) (by omega) _ _ (DAtL.sub (sub_push hW5 _) _ _ hd)) ?_
          simp -implicitDefEqProofs (maxDischargeDepth := 15) only [Yr, Ys, Yt, Wh, Wo, Wu, opA, Wv, Wx, Wy, Wz, Za, Zb, Vb, true_and, EndOk, resultA, oneOf, Zz, eq_self]
          exact sub_push hW5 _
      cases ht : ar.any (fun t => !t.right)
      case true =>
        simp -implicitDefEqProofs (maxDischargeDepth := 15) only [↓reduceIte, Yr, Ys, Yt, Yw, Wd, We, Wh, Wo, Wu, opA, Wv, Ww, Wx, Wy, Wz, Za, Zb, Vb, EndOk, resultA, oneOf, Zz, Yb, Yd, Vu, Vv, Vx]
        exact ⟨by simp only [F.shape, hr, rights_all, ht]; simp, hE4⟩
      simp -implicitDefEqProofs (maxDischargeDepth := 15) only [Ys, Yt, Yv, Wb, Wd, We, Wu, opA, Wv, Ww, Wx, Wy, Wz, Za, Zb, Vb, partA, Zh, Zi, Zk, Zq, Zr, Yc, Vu, Vv, Yj, g1]
      refine RunV.to (containsFunc_ok hmx (sz := 4) (ld := some 4) rf_slices_ContainsFunc_api_Form rf_slices_IndexFunc_api_Form (xs := l) (q := fun t => !t.shape) rfl (by omega) hL'.2.1 fun k x hx => ?_) ?_
      · obtain ⟨rfl, i, off, cs, w, rfl, hg, hl3, xs, hxs, hd⟩ := hL'.elem hx
        refine ⟨.agg xs, ⟨i, off, cs, w, rfl, hg, ?_⟩, ?_⟩
        · simp only [partA]; rw [if_pos hl3, hxs]
        · have hxm := List.mem_of_getElem? hx
          have hc := nodes_mem hxm
          refine RunV.wf fun hW5 => RunV.forget rfl ?_
          refine runF_intro hmx rf_syntax_shapeS2 ?_
          have hl : 4 ≤ xs.length := by rw [hd.length, F.dv_len]; omega
          have ht3 : xs.take 4 = xs := List.take_of_length_le (by rw [hd.length, F.dv_len]; omega)
          have hb : (σ4.push (.cells xs true)).get (σ.push (.cells [.int .u8 op, .str nm, .slice o1 ar.length c1 z1, .slice (some (i, off)) l.length c2 4] true)).next = some (.cells [.int .i64 0] true) := by
            rw [Vh (hW5.lt g0)]; exact g0
          simp -implicitDefEqProofs (maxDischargeDepth := 15) only [↓reduceIte, Yr, Ys, Yt, Wb, Wj, Wk, Wo, opA, Wv, Ww, Wx, Wy, Wz, Za, Zb, List.replicate, Zc, Zd, Vb, Vc, Vd, AV.cells, Vg, partA, Zf, Zg, Zh, Zi, Nat.reduceAdd, Nat.reduceSub, Zk, Zm, Zq, i_syntax_shapeS2, c47_0, c47_1, c47_2, hl, ht3, hb]
          refine RunV.to (ih x.nodes (by omega) x (Nat.le_refl _) (by omega) (sane_mem hs.2.2.2 hxm) _ _ (DAtL.sub (sub_push hW5 _) _ _ hd)) ?_
          simp -implicitDefEqProofs (maxDischargeDepth := 15) only [Yr, Ys, Yt, Wh, Wo, Wu, opA, Wv, Wx, Wy, Wz, Za, Zb, Vb, true_and, EndOk, resultA, oneOf, Zz, eq_self]
          exact sub_push hW5 _
      · simp -implicitDefEqProofs (maxDischargeDepth := 15) only [↓reduceIte, Yr, Ys, Yt, Yv, Wd, Wh, Wo, Wu, opA, Wv, Wx, Wy, Wz, Za, Zb, Vb, EndOk, resultA, oneOf, Zz, Vu, Vv, Yj, eq_self]
        exact ⟨by simp only [F.shape, hr, hn, ha', hl', rights_all, shapes_all, ht]; simp, hE4⟩
  · have h1 : decide ((op : Int) ≥ 17) = true := decide_eq_true (by omega)
    have hr : row op = none := by
      unfold row
      repeat' split
      all_goals first | rfl | omega
    simp -implicitDefEqProofs (maxDischargeDepth := 15) only [↓reduceIte, Yr, Ys, Yt, Yw, Yz, Wd, Wh, Wj, Wk, Wl, Wo, Wq, Wu, opA, Wv, Ww, Wx, Wy, Wz, Va, Za, Zb, Zd, Ze, Vb, Vc, Vd, Ve, AV.cells, Vg, Vh, Vi, Vj, Vn, partA, Zf, Zg, Nat.reduceAdd, Zj, Zk, Zl, Zn, Zp, Zq, Zs, binA, putL, allOne, and_self, EndOk, resultA, oneOf, Zz, Vu, Vv, eq_self, Vy, hlr, hw, h1, hall]
    exact ⟨by simp only [F.shape, hr], hE⟩
theorem right_ok (f : F) (hf : f.nodes ≤ 1152921504606846976) (hs : f.sane) (σ : AState) (xs : List AV) (hD : DAtL σ.get f.dv xs) :
    RunF RR Tryz.prog n_syntax_Right [.agg xs] σ (fun u σ' => u = .bool f.right ∧ σ' = σ) := by
  refine RunV.wf fun hW => RunV.forget rfl ?_
  refine runF_intro hmx rf_syntax_Right ?_
  have hl : 4 ≤ xs.length := by rw [hD.length, F.dv_len]; omega
  have ht : xs.take 4 = xs := List.take_of_length_le (by rw [hD.length, F.dv_len]; omega)
  have hE := sub_push hW (.cells xs true)
  have hD1 := DAtL.sub hE _ _ hD
  have fits : RunF RR Tryz.prog n_syntax_fits [.agg xs] (σ.push (.cells xs true)) (fun u σ' => u = .bool (decide (f.nodes ≤ 400) && decide (f.depth ≤ 40)) ∧ σ' = σ.push (.cells xs true)) := by
    refine RunV.wf fun hW1 => RunV.forget rfl ?_
    refine runF_intro hmx rf_syntax_fits ?_
    have hE1 := sub_push hW1 (.cells xs true)
    have hD2 := DAtL.sub hE1 _ _ hD1
    simp -implicitDefEqProofs (maxDischargeDepth := 15) only [↓reduceIte, Yr, Ys, Yt, Wb, Wj, Wk, Wo, opA, Wv, Ww, Wx, Wy, Wz, Za, Zb, List.replicate, Zc, Zd, Ze, Vb, Vc, Vd, AV.cells, Vg, partA, Zf, Zg, Zh, Zi, Nat.reduceSub, Zk, Zm, i_syntax_fits, c70_0, c70_1, c70_2, c70_3, hl, ht]
    refine RunV.to (nodes_ok f hf _ _ hD2) ?_
    have e1 : decide ((f.nodes : Int) ≤ 400) = decide (f.nodes ≤ 400) := by rw [decide_eq_decide]; omega
    have e2 : decide ((f.depth : Int) ≤ 40) = decide (f.depth ≤ 40) := by rw [decide_eq_decide]; omega
    cases h1 : decide (f.nodes ≤ 400)
    · rw [h1] at e1
      simp -implicitDefEqProofs (maxDischargeDepth := 15) only [↓reduceIte, Yr, Ys, Yt, Yw, Wd, We, Wh, Wo, Wu, opA, Wv, Ww, Wx, Wy, Wz, Za, Zb, Vb, binA, EndOk, resultA, oneOf, Zz, Yd, Vu, Vv, eq_self, Vx, e1]
      exact ⟨by simp, hE1⟩
    · rw [h1] at e1
      simp -implicitDefEqProofs (maxDischargeDepth := 15) only [↓reduceIte, Ys, Yt, Yv, Wb, Wd, We, Wu, opA, Wv, Ww, Wx, Wy, Wz, Za, Zb, Vb, Vg, partA, Zh, Zi, Zk, Zm, binA, Zx, Vu, Vv, Yj, eq_self, hl, ht, e1]
      refine RunV.to (depth_ok _ f (Nat.le_refl _) hf _ _ hD2) ?_
      simp -implicitDefEqProofs (maxDischargeDepth := 15) only [↓reduceIte, Yr, Ys, Yt, Yv, Wd, Wh, Wo, Wu, opA, Wv, Ww, Wx, Wy, Wz, Za, Zb, Vb, binA, true_and, EndOk, resultA, oneOf, Zz, Vu, Vv, Yj, eq_self, e2]
      exact hE1
  simp -implicitDefEqProofs (maxDischargeDepth := 15) only [↓reduceIte, Yr, Ys, Yt, Wb, Wj, Wk, Wo, opA, Wv, Ww, Wx, Wy, Wz, Za, Zb, List.replicate, Zc, Zd, Ze, Vb, Vc, Vd, AV.cells, Vg, partA, Zf, Zg, Zh, Zi, Nat.reduceSub, Zk, Zm, i_syntax_Right, c95_0, c95_1, c95_2, c95_3, hl, ht]
  refine RunV.to fits ?_
  cases h1 : (decide (f.nodes ≤ 400) && decide (f.depth ≤ 40))
  · simp -implicitDefEqProofs (maxDischargeDepth := 15) only [↓reduceIte, Yr, Ys, Yt, Yw, Wd, We, Wh, Wo, Wu, opA, Wv, Ww, Wx, Wy, Wz, Za, Zb, Vb, EndOk, resultA, oneOf, Zz, Yd, Vu, Vv, Vx]
    exact ⟨by simp only [F.right, h1]; simp, hE⟩
  · simp -implicitDefEqProofs (maxDischargeDepth := 15) only [↓reduceIte, Ys, Yt, Yv, Wb, Wd, We, Wu, opA, Wv, Ww, Wx, Wy, Wz, Za, Zb, Vb, Vg, partA, Zh, Zi, Zk, Zm, Vu, Vv, Yj, hl, ht]
    refine RunV.to (shape_ok _ f (Nat.le_refl _) hf hs _ _ hD1) ?_
    simp -implicitDefEqProofs (maxDischargeDepth := 15) only [↓reduceIte, Yr, Ys, Yt, Wh, Wo, Wu, opA, Wv, Wx, Wy, Wz, Za, Zb, Vb, EndOk, resultA, oneOf, Zz, eq_self]
    exact ⟨by simp only [F.right, h1]; simp, hE⟩
end Go.Am
namespace Go.Am
open Go.RowKit Go.Proofs Do
set_option maxRecDepth 100000
theorem sjoin_ok {σ : AState} {o : Option (Nat × Nat)} {n : Nat} {c : Option Nat} {z : Nat} {ss : List Str} (h : Strs σ.get o n z ss) (sep : Str) (hb : (jn ss sep).length ≤ 281474976710656) (hn : n ≤ 140737488355328) :
    RunF RR Tryz.prog n_strings_Join [.slice o n c z, .str sep] σ (fun u σ' => u = .str (jn ss sep) ∧ σ' = σ) :=
  prim_join Tryz.joinOk h.first (toStrs_map ss) ⟨hb, hn⟩
theorem join_ok {σ : AState} {o : Option (Nat × Nat)} {n : Nat} {c : Option Nat} {z : Nat} {ss : List Str} (h : Strs σ.get o n z ss) (hb : (jn ss sp).length ≤ 281474976710656) (hn : n ≤ 140737488355328) :
    RunF RR Tryz.prog n_describe_join [.slice o n c z] σ (fun u σ' => u = .str (jn ss sp) ∧ σ' = σ) := by
  refine runF_intro hmx rf_describe_join ?_
  simp -implicitDefEqProofs (maxDischargeDepth := 15) only [Yr, Ys, Yt, Wb, Wj, Wk, Wo, opA, Wv, Ww, Wx, Wy, Wz, Za, Zb, List.replicate, Zc, Zd, Ze, Vb, Zf, Zg, Zh, Zi, Nat.reduceSub, Zk, i_describe_join, c53_0, c53_1, c53_2]
  refine RunV.to (sjoin_ok h sp hb hn) ?_
  simp -implicitDefEqProofs (maxDischargeDepth := 15) only [Yr, Ys, Yt, Wh, Wo, Wu, opA, Wv, Wx, Wy, Wz, Za, Zb, Vb, and_self, EndOk, resultA, oneOf, Zz, eq_self]
theorem strs_new {σ : AState} {l : List AV} {w : Bool} {ss : List Str} {n : Nat} (hl : l = ss.map .str) (hn : ss.length = n) : Strs (σ.push (.cells l w)).get (some (σ.next, 0)) n 1 ss :=
  .inr ⟨hn, rfl, σ.next, 0, l, w, rfl, Vg, by rw [hl]; simp; omega, by rw [hl, List.drop_zero, ← hn]; exact List.take_of_length_le (by simp)⟩
theorem jn_le_mem {l : List Str} {s x : Str} (h : x ∈ l) : x.length ≤ (jn l s).length := by
  induction l with
  | nil => cases h
  | cons a r ih =>
    cases r with
    | nil =>
      rw [List.mem_singleton] at h; subst h; rw [jn_one]; exact Nat.le_refl _
    | cons b r =>
      rw [jn_cons2]
      simp only [List.length_append]
      rcases List.mem_cons.1 h with e | e
      · subst e; omega
      · have := ih e; omega
theorem txts_take {l : List T} {k : Nat} {t : T} (h : l[k]? = some t) : T.txts (l.take (k + 1)) = T.txts (l.take k) ++ [t.txt] := by
  induction l generalizing k with
  | nil => simp at h
  | cons a r ih =>
    cases k with
    | zero => simp only [List.getElem?_cons_zero, Option.some.injEq] at h; subst h; simp [T.txts]
    | succ k => simp only [List.getElem?_cons_succ] at h; simp only [List.take_succ_cons, T.txts, ih h, List.cons_append]
theorem txts_len (l : List T) : (T.txts l).length = l.length := by
  induction l with
  | nil => rfl
  | cons a r ih => simp [T.txts, ih]
theorem txts_mem {l : List T} {t : T} (h : t ∈ l) : t.txt ∈ T.txts l := by
  induction l with
  | nil => cases h
  | cons a r ih =>
    simp only [T.txts]
    rcases List.mem_cons.1 h with e | e
    · subst e; simp
    · exact List.mem_cons_of_mem _ (ih e)
theorem T.txt_head (v : Bool) (n : Str) (ar : List T) : (T.mk v n ar).txt = headTxt n ar := by
  cases ar with
  | nil => rfl
  | cons a r => rfl
structure Grown (σ0 σ : AState) (o : Option (Nat × Nat)) (n : Nat) (c : Option Nat) (z sz : Nat) (cs : List AV) : Prop where
  wf0 : σ0.Wf
  wf : σ.Wf
  keep : ∀ i b, σ0.get i = some b → σ.get i = some b
  le : σ0.next ≤ σ.next
  len : cs.length = n * sz
  at' : (o = none ∧ n = 0) ∨ (c = none ∧ z = sz ∧ ∃ i, o = some (i, 0) ∧ σ0.next ≤ i ∧ σ.get i = some (.cells cs true))
theorem Grown.strs {σ0 σ : AState} {o : Option (Nat × Nat)} {n : Nat} {c : Option Nat} {z : Nat} {ss : List Str} (h : Grown σ0 σ o n c z 1 (ss.map .str)) : Strs σ.get o n z ss := by
  have hl := h.len
  simp only [List.length_map, Nat.mul_one] at hl
  rcases h.at' with ⟨h2, h3⟩ | ⟨_, h3, i, h4, _, h5⟩
  · exact .inl ⟨h2, h3, List.length_eq_zero_iff.1 (by omega)⟩
  · exact .inr ⟨hl, h3, i, 0, _, true, h4, h5, by simp [hl], by rw [List.drop_zero, ← hl]; exact List.take_of_length_le (by simp)⟩
theorem Grown.nil {σ0 σ : AState} (hW0 : σ0.Wf) (hW : σ.Wf) (hk : ∀ i b, σ0.get i = some b → σ.get i = some b) (hl : σ0.next ≤ σ.next) (c : Option Nat) (z sz : Nat) : Grown σ0 σ none 0 c z sz [] :=
  ⟨hW0, hW, hk, hl, by simp, .inl ⟨rfl, rfl⟩⟩
theorem Grown.push {σ0 σ : AState} {o : Option (Nat × Nat)} {n : Nat} {c : Option Nat} {z sz : Nat} {cs : List AV} (h : Grown σ0 σ o n c z sz cs) (b : ABlk) : Grown σ0 (σ.push b) o n c z sz cs :=
  ⟨h.wf0, h.wf.push b, fun i x e => sub_push h.wf b i x (h.keep i x e), Nat.le_succ_of_le h.le, h.len, h.at'.imp_right fun ⟨h1, h2, i, h3, h4, h5⟩ => ⟨h1, h2, i, h3, h4, sub_push h.wf b i _ h5⟩⟩
theorem Grown.append {σ0 σ : AState} {o : Option (Nat × Nat)} {n : Nat} {c : Option Nat} {z sz bytes : Nat} {cs xs : List AV} (h : Grown σ0 σ o n c z sz cs) (hsz : 0 < sz) (hx : xs.length = sz) (ho : allOne xs = true) (hg : grows (n + 1) bytes = true) :
    ∃ i es, appendA σ.get σ.next sz bytes (.slice o n c z) 1 xs = some (.slice (some (i, 0)) (n + 1) none sz, es) ∧ Grown σ0 (σ.app es) (some (i, 0)) (n + 1) none sz sz (cs ++ xs) ∧ σ.next ≤ (σ.app es).next ∧ (∀ j b, (∀ i, o = some (i, 0) → j ≠ i) → σ.get j = some b → (σ.app es).get j = some b) := by
  have hl := h.len
  have h3 : (cs ++ xs).length = (n + 1) * sz := by rw [List.length_append, hl, hx, Nat.add_mul, Nat.one_mul]
  rcases h.at' with ⟨rfl, rfl⟩ | ⟨rfl, rfl, i, rfl, hi, hgi⟩
  · have hc : cs = [] := List.length_eq_zero_iff.1 (by simpa using hl)
    subst hc
    refine ⟨σ.next, [.push (.cells xs true)], ?_, ?_, Nat.le_succ _, fun j b _ e => sub_push h.wf _ j b e⟩
    · simp [appendA, hsz, hg]
    · refine ⟨h.wf0, h.wf.push _, fun i b e => sub_push h.wf _ i b (h.keep i b e), Nat.le_succ_of_le h.le, by simpa using h3, .inr ⟨rfl, rfl, σ.next, rfl, h.le, ?_⟩⟩
      show (σ.push _).get σ.next = _
      rw [Vg]; rfl
  · refine ⟨σ.next, [.kill i, .push (.cells (cs ++ xs) true)], ?_, ?_, Nat.le_succ _, ?_⟩
    · simp [appendA, hsz, hg, hgi, ho, hl, List.take_of_length_le (Nat.le_of_eq hl)]
    · refine ⟨h.wf0, (h.wf.kill i).push _, fun j b e => ?_, Nat.le_succ_of_le h.le, h3, .inr ⟨rfl, rfl, σ.next, rfl, h.le, ?_⟩⟩
      · show ((σ.kill i).push _).get j = some b
        have hj := h.keep j b e
        have hne : j ≠ i := by
          have := h.wf0.lt e
          omega
        rw [Vh (by show j < σ.next; exact h.wf.lt hj), Vm hne]; exact hj
      · show ((σ.kill i).push _).get σ.next = _
        exact Vg (σ := σ.kill i)
    · intro j b hj e
      show ((σ.kill i).push _).get j = some b
      rw [Vh (by show j < σ.next; exact h.wf.lt e), Vm (hj i rfl)]; exact e
theorem term_txt_ok : ∀ (m : Nat) (n : Str) (ar : List T), T.cnts ar ≤ m → m ≤ 1099511627776 → (headTxt n ar).length ≤ 281474976710656 → ∀ (σ : AState) (o : Option (Nat × Nat)) (nn : Nat) (c : Option Nat) (z : Nat), Ts σ.get o nn z ar →
    RunF RR Tryz.prog n_describe_term [.str n, .slice o nn c z] σ (fun u σ' => u = .str (headTxt n ar) ∧ σ' = σ) := by
  intro m
  induction m using Nat.strongRecOn with
  | _ m ih =>
  intro n ar hm hmb hlb σ o nn c z hT
  refine RunV.wf fun hW => RunV.forget rfl ?_
  refine runF_intro hmx rf_describe_term ?_
  have hn : nn = ar.length := hT.1
  have hlen := cnts_len ar
  cases ar with
  | nil =>
    have h0 : nn = 0 := hn
    subst h0
    simp -implicitDefEqProofs (maxDischargeDepth := 15) only [↓reduceIte, Yr, Ys, Yt, Yz, Wh, Wj, Wk, Wl, Wo, Wq, opA, Wv, Ww, Wx, Wy, Wz, Za, Zb, List.replicate, Zc, Zd, Ze, Vb, Zf, Zg, Nat.reduceAdd, Nat.reduceSub, Zk, binA, EndOk, resultA, oneOf, Zz, eq_self, i_describe_term, c84_0, c84_1, c84_2, c84_3, c84_4, c84_5, c84_6, c84_7, c84_8, c84_9, c84_10, c84_11, c84_12, c84_13, c84_14, c84_15, c84_16, c84_17, show (((0 : Nat) : Int) == 0) = true from rfl]
    exact ⟨rfl, Sub.refl _⟩
  | cons a r =>
    have h0 : ((nn : Int) == 0) = false := by
      simp only [beq_eq_false_iff_ne]; simp only [List.length_cons] at hn; omega
    generalize har : a :: r = ar at *
    have hht : headTxt n ar = jn [n, wOf, jn (T.txts ar) sAnd, wClose] sp := by subst har; rfl
    rw [hht] at hlb ⊢
    have hl2 : (jn (T.txts ar) sAnd).length ≤ 281474976710656 := Nat.le_trans (jn_le_mem (by simp)) hlb
    simp -implicitDefEqProofs (maxDischargeDepth := 15) only [↓reduceIte, Yr, Ys, Yt, Wa, Wg, Wj, Wk, Wl, Wm, Wo, opA, Wv, Ww, Wx, Wy, Wz, Za, Zb, List.replicate, Zc, Zd, Ze, Vb, Zf, Zg, Nat.reduceAdd, Nat.reduceSub, Zk, binA, eq_self, i_describe_term, c84_0, c84_1, c84_2, c84_3, c84_4, c84_5, c84_6, c84_7, c84_8, c84_9, c84_10, c84_11, c84_12, c84_13, c84_14, c84_15, c84_16, c84_17, h0]
    refine wp_loop (fun ts σ' m => ∃ (k : Nat) (so : Option (Nat × Nat)) (sc : Option Nat) (sz : Nat), Grown σ σ' so k sc sz 1 ((T.txts (ar.take k)).map .str) ∧ k + m = nn ∧ ∃ j2 j3 j6 j7 j8 j9 j10 j11 j15 j16 j17 j18 j19 j20 j21 j22 j23 j24 j25 j26 j27 j28 j29 j30 j31 : AV, ts = [.str n, .slice o nn c z, j2, j3, .str [], .slice so k sc sz, j6, j7, j8, j9, j10, j11, .slice o nn c z, .int .i64 nn, .int .i64 k, j15, j16, j17, j18, j19, j20, j21, j22, j23, j24, j25, j26, j27, j28, j29, j30, j31]) nn ⟨0, none, _, _, Grown.nil hW hW (fun _ _ e => e) (Nat.le_refl _) _ _ _, by omega, _, _, _, _, _, _, _, _, _, _, _, _, _, _, _, _, _, _, _, _, _, _, _, _, _, rfl⟩ ?_
    rintro m' ts σ' ⟨k, so, sc, sz, hG, hk, j2, j3, j6, j7, j8, j9, j10, j11, j15, j16, j17, j18, j19, j20, j21, j22, j23, j24, j25, j26, j27, j28, j29, j30, j31, rfl⟩
    have hT' := hT.sub hG.keep
    by_cases hlt : k < nn
    · obtain ⟨t, ht, htm⟩ := get_lt (l := ar) (k := k) (by omega)
      obtain ⟨rfl, i, off, cs, w, rfl, hg, hlen3, xs, hxs, hd⟩ := hT'.elem ht
      have hc := cnts_mem htm
      have htx := txts_mem htm
      obtain ⟨v, nm, ar'⟩ := t
      obtain ⟨oa, ca, za, rfl, hA⟩ := T.cells hd
      have hi := hG.wf.lt hg
      have hd : decide ((k : Int) < nn) = true := decide_eq_true (by omega)
      have e1 : (0 : Int) ≤ (k : Int) ∧ (k : Int) < (nn : Int) := by omega
      simp only [T.cnt] at hc
      rw [T.txt_head] at htx
      simp -implicitDefEqProofs (maxDischargeDepth := 15) only [↓reduceIte, Yr, Ys, Yt, Yz, Wb, Wg, Wj, Wk, Wl, Wm, Wo, Wp, Wq, Ws, Wt, opA, Wv, Ww, Wx, Wy, Wz, Va, Za, Zb, Zd, Ze, Vb, Vc, Vd, Ve, AV.cells, Vg, Vn, partA, Zf, Zg, Zh, Zi, Nat.reduceAdd, Zj, Zk, Zn, Zp, Zq, Zr, Zs, binA, putL, allOne, Zu, Zv, AV.one, Zy, and_self, EndOk, resultA, oneOf, Zz, Yf, eq_self, Yp, e1, hg, hlen3, hxs]
      refine RunV.to (ih (T.cnts ar') (by omega) nm ar' (Nat.le_refl _) (by omega) (Nat.le_trans (jn_le_mem htx) hl2) _ _ _ _ _ (hA.sub (sub_push hG.wf _))) ?_
      have hG1 := (hG.push (.cells [.bool v, .str nm, .slice oa ar'.length ca za] true)).push (.cells [.str (headTxt nm ar')] true)
      obtain ⟨i', es, he, hG2, _⟩ := hG1.append (bytes := 16) (xs := [.str (headTxt nm ar')]) (by omega) rfl rfl (decide_eq_true (by omega))
      simp -implicitDefEqProofs (maxDischargeDepth := 15) only [↓reduceIte, Yr, Ys, Yt, Wj, Wo, Wr, Wu, opA, Wv, Ww, Wx, Wy, Wz, Za, Zb, Zd, Ze, Vb, Vc, Vd, AV.cells, Vg, Zf, Zg, Zh, Zi, Zj, Zk, Zm, Zn, Zo, Zp, Zs, Zt, binA, fillA, and_self, lenA, firstA, eq_self, he]
      rw [wrap_i64 (n := (k : Int) + 1) (by omega)]
      refine ⟨m' - 1, by omega, k + 1, _, _, _, ?_, by omega, _, _, _, _, _, _, _, _, _, _, _, _, _, _, _, _, _, _, _, _, _, _, _, _, _, rfl⟩
      rw [txts_take ht, List.map_append, T.txt_head]
      exact hG2
    · have hd : decide ((k : Int) < nn) = false := decide_eq_false (by omega)
      have hkn : k = nn := by omega
      subst hkn
      have : ar.take k = ar := List.take_of_length_le (by omega)
      rw [this] at hG
      simp -implicitDefEqProofs (maxDischargeDepth := 15) only [↓reduceIte, Yr, Ys, Yt, Wa, Wb, Wi, Wj, Wk, Wl, Wo, Wp, Wq, Ws, Wt, opA, Wv, Ww, Wx, Wy, Wz, Za, Zb, Vb, Zh, Zi, binA, EndOk, resultA, oneOf, Zz, eq_self, hd]
      refine RunV.to (sjoin_ok hG.strs sAnd hl2 (by omega)) ?_
      simp -implicitDefEqProofs (maxDischargeDepth := 15) only [↓reduceIte, Ys, Yt, Wb, Wu, opA, Wv, Ww, Wx, Wy, Wz, Za, Zb, Zc, Zd, Ze, Vb, Vc, Vd, AV.cells, Zf, Zg, Zh, Zi, Nat.reduceAdd, Nat.reduceLeDiff, Zj, Zk, Zm, Zn, Zo, Zp, Zs, fillA, and_self, eq_self]
      have hst := strs_new (σ := σ') (w := true) (l := [.str n, .str wOf, .str (jn (T.txts ar) sAnd), .str wClose]) (ss := [n, wOf, jn (T.txts ar) sAnd, wClose]) (n := 4) rfl rfl
      refine RunV.to (join_ok hst hlb (by omega)) ?_
      simp -implicitDefEqProofs (maxDischargeDepth := 15) only [Yr, Ys, Yt, Wh, Wo, Wu, opA, Wv, Wx, Wy, Wz, Za, Zb, Vb, true_and, EndOk, resultA, oneOf, Zz, eq_self]
      exact fun i b e => sub_push hG.wf _ i b (hG.keep i b e)
end Go.Am
namespace Go.Am
open Go.RowKit Go.Proofs Do
set_option maxRecDepth 100000
def patCells (p : Nat × Str × Str) : List AV := [.int .u8 p.1, .str p.2.1, .str p.2.2]
def patsL : List AV := pats.flatMap patCells
theorem patterns_ok (σ : AState) : RunF RR Tryz.prog n_describe_patterns [] σ (fun u σ' => u = .slice (some (σ.next, 0)) 11 (some 11) 3 ∧ σ' = σ.push (.cells patsL true)) := by
  refine runF_intro hmx rf_describe_patterns ?_
  simp -implicitDefEqProofs (maxDischargeDepth := 15) only [↓reduceIte, Yr, Ys, Yt, Wh, Wj, Wk, Wo, opA, Wv, Ww, Wx, Wy, Wz, Za, Zb, List.replicate, Zc, Zd, Ze, Vb, Vc, Vd, AV.cells, Zf, Zg, Zh, Zi, Nat.reduceAdd, Nat.reduceLeDiff, Nat.reduceSub, Zj, Zk, Zm, Zn, Zo, Zp, Zs, fillA, and_self, true_and, EndOk, resultA, oneOf, Zz, eq_self, i_describe_patterns, c63_0, c63_1]
  rfl
theorem pats_elem : ∀ (k : Nat) (p : Nat × Str × Str), pats[k]? = some p → partA patsL (0 + k * 3) (some 3) = some (.agg (patCells p)) ∧ k < 11 ∧ patsL[k * 3 + 1]? = some (.str p.2.1) ∧ patsL[k * 3 + 2]? = some (.str p.2.2)
  | 0, p, h | 1, p, h | 2, p, h | 3, p, h | 4, p, h | 5, p, h | 6, p, h | 7, p, h | 8, p, h | 9, p, h | 10, p, h => by cases h; exact ⟨rfl, by omega, rfl, rfl⟩
  | k + 11, p, h => by simp [pats] at h
theorem headS1_ok (σ : AState) (b : Nat) (p : Nat × Str × Str) (op : Nat) (xs : List AV) (hb : σ.get b = some (.cells (.int .u8 op :: xs) true)) :
    RunV RR Tryz.prog (.func (.func n_describe_headS1) [] [.ptr (some (b, 0))]) [.agg (patCells p)] σ (fun u σ' => u = .bool (p.1 == op) ∧ σ' = σ) := by
  refine RunV.wf fun hW => RunV.forget rfl ?_
  refine runF_intro hmx rf_describe_headS1 ?_
  have hbl := hW.lt hb
  simp -implicitDefEqProofs (maxDischargeDepth := 15) only [↓reduceIte, Yr, Ys, Yt, Wh, Wj, Wk, Wo, opA, Wv, Ww, Wx, Wy, Wz, Za, Zb, List.replicate, Zc, Zd, Vb, Vc, Vd, AV.cells, Vg, Vh, partA, Zf, Zg, Nat.reduceAdd, Nat.reduceSub, Zk, Zl, Zq, binA, EndOk, resultA, oneOf, Zz, eq_self, i_describe_headS1, c50_0, c50_1, patCells, hb, hbl]
  refine ⟨?_, sub_push hW _⟩
  congr 1
  rw [Bool.eq_iff_iff]
  simp only [beq_iff_eq]
  omega
def OpIn (op : Nat) : Prop := op = 1 ∨ op = 8 ∨ op = 9 ∨ (op ≠ 1 ∧ op ≠ 8 ∧ op ≠ 9 ∧ ∃ k p, pats.findIdx? (fun p => p.1 == op) = some k ∧ pats[k]? = some p ∧ pat op = p.2)
theorem opIn_of {op k : Nat} {p : Nat × Str × Str} (h1 : op ≠ 1) (h2 : op ≠ 8) (h3 : op ≠ 9) (h : pats.findIdx? (fun p => p.1 == op) = some k) (hp : pats[k]? = some p) (hq : pat op = p.2) : OpIn op := .inr (.inr (.inr ⟨h1, h2, h3, k, p, h, hp, hq⟩))
theorem ok_op : ∀ f : F, f.ok → ∃ op n ar l, f = .mk op n ar l ∧ OpIn op
  | .mk op n ar l, h => by
    refine ⟨op, n, ar, l, rfl, ?_⟩
    simp only [F.ok] at h
    obtain ⟨_, ⟨h, _⟩ | ⟨h, _⟩ | ⟨h | h | h | h | h, _⟩ | ⟨h | h | h | h | h, _⟩ | ⟨h | h, _⟩⟩ := h
    · exact .inl h
    · subst h; exact opIn_of (k := 0) (by decide) (by decide) (by decide) rfl rfl rfl
    · subst h; exact opIn_of (k := 1) (by decide) (by decide) (by decide) rfl rfl rfl
    · subst h; exact opIn_of (k := 2) (by decide) (by decide) (by decide) rfl rfl rfl
    · subst h; exact opIn_of (k := 3) (by decide) (by decide) (by decide) rfl rfl rfl
    · subst h; exact opIn_of (k := 4) (by decide) (by decide) (by decide) rfl rfl rfl
    · subst h; exact opIn_of (k := 5) (by decide) (by decide) (by decide) rfl rfl rfl
    · subst h; exact opIn_of (k := 6) (by decide) (by decide) (by decide) rfl rfl rfl
    · subst h; exact opIn_of (k := 7) (by decide) (by decide) (by decide) rfl rfl rfl
    · subst h; exact opIn_of (k := 8) (by decide) (by decide) (by decide) rfl rfl rfl
    · subst h; exact opIn_of (k := 9) (by decide) (by decide) (by decide) rfl rfl rfl
    · subst h; exact opIn_of (k := 10) (by decide) (by decide) (by decide) rfl rfl rfl
    · exact .inr (.inl h)
    · exact .inr (.inr (.inl h))
theorem head_ok (f : F) (hf : f.ok) (hn : f.nodes ≤ 1099511627776) (hl : f.head.1.length ≤ 281474976710656) (σ : AState) (xs : List AV) (hD : DAtL σ.get f.dv xs) :
    RunF RR Tryz.prog n_describe_head [.agg xs] σ (fun u σ' => u = .tuple [.str f.head.1, .str f.head.2] ∧ σ' = σ) := by
  refine RunV.wf fun hW => RunV.forget rfl ?_
  refine runF_intro hmx rf_describe_head ?_
  obtain ⟨op, nm, ar, l, rfl, hop⟩ := ok_op f hf
  obtain ⟨o1, c1, z1, o2, c2, z2, rfl, hA, hL⟩ := F.cells hD
  simp only [F.nodes] at hn
  have hE := sub_push hW (.cells [.int .u8 op, .str nm, .slice o1 ar.length c1 z1, .slice o2 l.length c2 z2] true)
  have hW1 := hW.push (.cells [.int .u8 op, .str nm, .slice o1 ar.length c1 z1, .slice o2 l.length c2 z2] true)
  rcases hop with rfl | rfl | rfl | ⟨n1, n8, n9, k, p, hk, hp, hq⟩
  · simp only [F.head, if_true] at hl ⊢
    simp -implicitDefEqProofs (maxDischargeDepth := 15) only [↓reduceIte, Yr, Ys, Yt, Yz, Wb, Wj, Wk, Wl, Wm, Wo, opA, Wv, Ww, Wx, Wy, Wz, Za, Zb, List.replicate, Zc, Zd, Ze, Vb, Vc, Vd, AV.cells, Vg, partA, Zf, Zg, Zh, Zi, Nat.reduceSub, Zk, Zl, Zq, Zr, binA, eq_self, i_describe_head, c32_0, c32_1, c32_2, c32_3, c32_4, c32_5, c32_6, c32_7, c32_8, c32_9, c32_10, c32_11, c32_12, c32_13, c32_14, c32_15, c32_16, c32_17, c32_18, c32_19, c32_20, show (((1 : Nat) : Int) == 1) = true from rfl]
    refine RunV.to (term_txt_ok _ nm ar (Nat.le_refl _) (by omega) hl _ _ _ _ _ (hA.sub hE)) ?_
    simp -implicitDefEqProofs (maxDischargeDepth := 15) only [Yr, Ys, Yt, Wh, Wo, Wq, Wt, Wu, opA, Wv, Ww, Wx, Wy, Wz, Za, Zb, Vb, true_and, EndOk, resultA, oneOf, Zz, eq_self]
    exact hE
  · have e : (F.mk 8 nm ar l).head = (jn [sForAll, nm] sp, []) := rfl
    rw [e] at hl ⊢
    simp -implicitDefEqProofs (maxDischargeDepth := 15) only [↓reduceIte, Yr, Ys, Yt, Yz, Wa, Wb, Wj, Wk, Wl, Wm, Wo, opA, Wv, Ww, Wx, Wy, Wz, Za, Zb, List.replicate, Zc, Zd, Ze, Vb, Vc, Vd, AV.cells, Vg, partA, Zf, Zg, Zh, Zi, Nat.reduceAdd, Nat.reduceLeDiff, Nat.reduceSub, Zj, Zk, Zl, Zm, Zn, Zo, Zp, Zq, Zr, Zs, binA, fillA, and_self, eq_self, i_describe_head, c32_0, c32_1, c32_2, c32_3, c32_4, c32_5, c32_6, c32_7, c32_8, c32_9, c32_10, c32_11, c32_12, c32_13, c32_14, c32_15, c32_16, c32_17, c32_18, c32_19, c32_20, show (((8 : Nat) : Int) == 1) = false from rfl, show (((8 : Nat) : Int) == 8) = true from rfl]
    refine RunV.to (join_ok (ss := [sForAll, nm]) (strs_new rfl rfl) hl (by omega)) ?_
    simp -implicitDefEqProofs (maxDischargeDepth := 15) only [Yr, Ys, Yt, Wh, Wo, Wq, Wt, Wu, opA, Wv, Ww, Wx, Wy, Wz, Za, Zb, Vb, true_and, EndOk, resultA, oneOf, Zz, eq_self]
    exact hE.trans (sub_push hW1 _)
  · have e : (F.mk 9 nm ar l).head = (jn [sForSome, nm] sp, []) := rfl
    rw [e] at hl ⊢
    simp -implicitDefEqProofs (maxDischargeDepth := 15) only [↓reduceIte, Yr, Ys, Yt, Yz, Wa, Wb, Wj, Wk, Wl, Wm, Wo, opA, Wv, Ww, Wx, Wy, Wz, Za, Zb, List.replicate, Zc, Zd, Ze, Vb, Vc, Vd, AV.cells, Vg, partA, Zf, Zg, Zh, Zi, Nat.reduceAdd, Nat.reduceLeDiff, Nat.reduceSub, Zj, Zk, Zl, Zm, Zn, Zo, Zp, Zq, Zr, Zs, binA, fillA, and_self, eq_self, i_describe_head, c32_0, c32_1, c32_2, c32_3, c32_4, c32_5, c32_6, c32_7, c32_8, c32_9, c32_10, c32_11, c32_12, c32_13, c32_14, c32_15, c32_16, c32_17, c32_18, c32_19, c32_20, show (((9 : Nat) : Int) == 1) = false from rfl, show (((9 : Nat) : Int) == 8) = false from rfl, show (((9 : Nat) : Int) == 9) = true from rfl]
    refine RunV.to (join_ok (ss := [sForSome, nm]) (strs_new rfl rfl) hl (by omega)) ?_
    simp -implicitDefEqProofs (maxDischargeDepth := 15) only [Yr, Ys, Yt, Wh, Wo, Wq, Wt, Wu, opA, Wv, Ww, Wx, Wy, Wz, Za, Zb, Vb, true_and, EndOk, resultA, oneOf, Zz, eq_self]
    exact hE.trans (sub_push hW1 _)
  · have e : (F.mk op nm ar l).head = p.2 := by simp only [F.head]; rw [if_neg n1, if_neg n8, if_neg n9, hq]
    rw [e] at hl ⊢
    have e1 : ((op : Int) == 1) = false := by simp only [beq_eq_false_iff_ne]; omega
    have e8 : ((op : Int) == 8) = false := by simp only [beq_eq_false_iff_ne]; omega
    have e9 : ((op : Int) == 9) = false := by simp only [beq_eq_false_iff_ne]; omega
    simp -implicitDefEqProofs (maxDischargeDepth := 15) only [↓reduceIte, Yr, Ys, Yt, Wa, Wb, Wg, Wj, Wk, Wl, Wm, Wo, Wr, opA, Wv, Ww, Wx, Wy, Wz, Za, Zb, List.replicate, Zc, Zd, Ze, Vb, Vc, Vd, AV.cells, Vg, partA, Zf, Zg, Zi, Nat.reduceSub, Zk, Zl, Zq, binA, eq_self, i_describe_head, c32_0, c32_1, c32_2, c32_3, c32_4, c32_5, c32_6, c32_7, c32_8, c32_9, c32_10, c32_11, c32_12, c32_13, c32_14, c32_15, c32_16, c32_17, c32_18, c32_19, c32_20, e1, e8, e9]
    refine RunV.to (patterns_ok _) ?_
    simp -implicitDefEqProofs (maxDischargeDepth := 15) only [Ys, Yt, Wb, Wu, opA, Wv, Ww, Wx, Wy, Wz, Za, Zb, Vb, Zh, Zi]
    have hW2 := hW1.push (.cells patsL true)
    refine RunV.to (indexFunc_ok hmx (sz := 3) (ld := some 3) rf_slices_IndexFunc_describe_pattern (xs := pats) (q := fun p => p.1 == op) rfl (by omega) (.inr rfl) fun j x hx => ⟨.agg (patCells x), ⟨_, 0, _, _, rfl, Vg, (pats_elem j x hx).1⟩, headS1_ok _ _ x op _ (by rw [Vh Vi, Vg])⟩) ?_
    obtain ⟨_, hk11, hq1, hq2⟩ := pats_elem k p hp
    have hix : ixInt (fun p : Nat × Str × Str => p.1 == op) pats = k := by simp only [ixInt, hk]
    rw [hix]
    have e3 : (0 : Int) ≤ (k : Int) ∧ (k : Int) < ((11 : Nat) : Int) := by omega
    simp -implicitDefEqProofs (maxDischargeDepth := 15) only [Yr, Ys, Yt, Wb, Wj, Wk, Wo, Wu, opA, Wv, Ww, Wx, Wy, Wz, Za, Zb, Vb, Zi]
    refine RunV.to (patterns_ok _) ?_
    simp -implicitDefEqProofs (maxDischargeDepth := 15) only [↓reduceIte, Ys, Yt, Wb, Wu, opA, Wv, Ww, Wx, Wy, Wz, Za, Zb, Vb, Vg, partA, Zi, Zk, and_self, Yf, eq_self, e3, hq1]
    have hW3 := hW2.push (.cells patsL true)
    refine RunV.to (patterns_ok _) ?_
    simp -implicitDefEqProofs (maxDischargeDepth := 15) only [↓reduceIte, Yr, Ys, Yt, Wc, Wh, Wo, Wu, opA, Wv, Wx, Wy, Wz, Za, Zb, Vb, Vg, Vh, Vi, partA, Zk, and_self, true_and, EndOk, resultA, oneOf, Zz, Yf, againOk, eq_self, e3, hq1, hq2]
    exact hE.trans ((sub_push hW1 _).trans ((sub_push hW2 _).trans (sub_push hW3 _)))
theorem text_ok : ∀ (m : Nat) (f : F), f.nodes ≤ m → m ≤ 1099511627776 → f.ok → f.txt.length ≤ 281474976710656 → ∀ (σ : AState) (xs : List AV), DAtL σ.get f.dv xs →
    RunF RR Tryz.prog n_describe_text [.agg xs] σ (fun u σ' => u = .str f.txt ∧ σ' = σ) := by
  intro m
  induction m using Nat.strongRecOn with
  | _ m ih =>
  intro f hf hm hok hb σ xs hD
  refine RunV.wf fun hW => RunV.forget rfl ?_
  refine runF_intro hmx rf_describe_text ?_
  have hlx : 4 ≤ xs.length := by rw [hD.length, F.dv_len]; omega
  have htx : xs.take 4 = xs := List.take_of_length_le (by rw [hD.length, F.dv_len]; omega)
  have hE := sub_push hW (.cells xs true)
  have hW1 := hW.push (.cells xs true)
  have hD1 := DAtL.sub hE _ _ hD
  obtain ⟨op, nm, ar, l⟩ := f
  have hok' := hok
  simp only [F.ok] at hok
  have hshape : l = [] ∨ (∃ a, l = [a]) ∨ ∃ a b, l = [a, b] := by
    obtain ⟨_, ⟨_, _, _, _, q⟩ | ⟨_, q⟩ | ⟨_, q⟩ | ⟨_, q⟩ | ⟨_, _, q⟩⟩ := hok
    · exact .inl q
    · exact .inl q
    · exact .inr (.inl q)
    · exact .inr (.inr q)
    · exact .inr (.inl q)
  have hoks := hok.1
  have hhl : (F.mk op nm ar l).head.1.length ≤ 281474976710656 := by
    refine Nat.le_trans ?_ hb
    rcases hshape with rfl | ⟨a, rfl⟩ | ⟨a, b, rfl⟩
    · exact Nat.le_refl _
    · exact jn_le_mem (by simp)
    · exact jn_le_mem (by simp)
  simp only [F.nodes] at hf
  have hhead := fun σ' (hs : Sub σ.get σ'.get) => head_ok (.mk op nm ar l) hok' (by simp only [F.nodes]; omega) hhl σ' xs (DAtL.sub hs _ _ hD)
  obtain ⟨o1, c1, z1, o2, c2, z2, rfl, hA, hL⟩ := F.cells hD
  simp -implicitDefEqProofs (maxDischargeDepth := 15) only [↓reduceIte, Yr, Ys, Yt, Wb, Wj, Wk, Wo, opA, Wv, Ww, Wx, Wy, Wz, Za, Zb, List.replicate, Zc, Zd, Ze, Vb, Vc, Vd, AV.cells, Vg, partA, Zf, Zg, Zh, Zi, Nat.reduceAdd, Nat.reduceSub, Zj, Zk, Zm, Zo, Zt, i_describe_text, c60_0, c60_1, c60_2, c60_3, c60_4, c60_5, c60_6, c60_7, c60_8, c60_9, c60_10, c60_11, c60_12, c60_13, c60_14, c60_15, c60_16]
  refine RunV.to (hhead _ hE) ?_
  have hL1 := hL.sub hE
  rcases hshape with rfl | ⟨a, rfl⟩ | ⟨a, b, rfl⟩
  · simp -implicitDefEqProofs (maxDischargeDepth := 15) only [↓reduceIte, Yr, Ys, Yt, Wa, Wg, Wh, Wj, Wk, Wl, Wm, Wo, Wr, Wu, opA, Wv, Ww, Wx, Wy, Wz, Za, Zb, Vb, Vg, partA, Zg, Zk, Zq, Zr, binA, EndOk, resultA, oneOf, Zz, eq_self, show (((0 : Nat) : Int) == 1) = false from rfl, show (((0 : Nat) : Int) == 2) = false from rfl]
    exact ⟨rfl, hE⟩
  · obtain ⟨rfl, i, off, cs, w, rfl, hg, hl3, xs, hxs, hd⟩ := hL1.elem (k := 0) (t := a) rfl
    simp only [Nat.zero_mul, Nat.add_zero] at hl3 hxs
    have hi := hW1.lt hg
    simp only [List.length_cons, List.length_nil, Nat.zero_add] at hg hi
    simp only [F.nodess] at hf
    have ha : a.ok := by simpa only [F.oks, and_true] using hoks
    have hba : a.txt.length ≤ 281474976710656 := Nat.le_trans (jn_le_mem (l := [(F.mk op nm ar [a]).head.1, a.txt]) (by simp)) hb
    simp -implicitDefEqProofs (maxDischargeDepth := 15) only [↓reduceIte, Yr, Ys, Yt, Yz, Wb, Wj, Wk, Wl, Wm, Wo, Wu, opA, Wv, Ww, Wx, Wy, Wz, Za, Zb, Vb, Vg, partA, Zf, Zg, Zh, Zi, Zk, Zl, Zq, Zr, binA, and_self, eq_self, Yl, Ym, show (((1 : Nat) : Int) == 1) = true from rfl, show ((0 : Int) ≤ 0 ∧ (0 : Int) < ((1 : Nat) : Int)) from by decide, hg, hl3, hxs]
    refine RunV.to (ih a.nodes (by omega) a (Nat.le_refl _) (by omega) ha hba _ _ hd) ?_
    simp -implicitDefEqProofs (maxDischargeDepth := 15) only [↓reduceIte, Ys, Yt, Wb, Wu, opA, Wv, Ww, Wx, Wy, Wz, Za, Zb, Zc, Zd, Ze, Vb, Vc, Vd, AV.cells, Zf, Zg, Zh, Zi, Nat.reduceAdd, Nat.reduceLeDiff, Zj, Zk, Zm, Zn, Zo, Zp, Zs, fillA, and_self, eq_self]
    refine RunV.to (join_ok (ss := [(F.mk op nm ar [a]).head.1, a.txt]) (strs_new rfl rfl) hb (by omega)) ?_
    simp -implicitDefEqProofs (maxDischargeDepth := 15) only [Yr, Ys, Yt, Wh, Wo, Wq, Wt, Wu, opA, Wv, Wx, Wy, Wz, Za, Zb, Vb, EndOk, resultA, oneOf, Zz]
    exact ⟨rfl, hE.trans (sub_push hW1 _)⟩
  · obtain ⟨rfl, i, off, cs, w, rfl, hg, hl3, xs, hxs, hd⟩ := hL1.elem (k := 0) (t := a) rfl
    obtain ⟨_, i', off', cs', w', e', hg', hl3', xs', hxs', hd'⟩ := hL1.elem (k := 1) (t := b) rfl
    cases e'
    rw [hg] at hg'; cases hg'
    simp only [Nat.zero_mul, Nat.add_zero] at hl3 hxs
    simp only [Nat.one_mul] at hl3' hxs'
    have hi := hW1.lt hg
    simp only [List.length_cons, List.length_nil, Nat.zero_add, Nat.reduceAdd] at hg hi
    simp only [F.nodess] at hf
    simp only [F.oks] at hoks
    have hba : a.txt.length ≤ 281474976710656 := Nat.le_trans (jn_le_mem (l := [(F.mk op nm ar [a, b]).head.1, a.txt, (F.mk op nm ar [a, b]).head.2, b.txt]) (by simp)) hb
    have hbb : b.txt.length ≤ 281474976710656 := Nat.le_trans (jn_le_mem (l := [(F.mk op nm ar [a, b]).head.1, a.txt, (F.mk op nm ar [a, b]).head.2, b.txt]) (by simp)) hb
    simp -implicitDefEqProofs (maxDischargeDepth := 15) only [↓reduceIte, Yr, Ys, Yt, Yz, Wa, Wb, Wj, Wk, Wl, Wm, Wo, Wu, opA, Wv, Ww, Wx, Wy, Wz, Za, Zb, Vb, Vg, partA, Zf, Zg, Zh, Zi, Nat.reduceAdd, Zk, Zl, Zq, Zr, binA, and_self, eq_self, Yl, Ym, show (((2 : Nat) : Int) == 1) = false from rfl, show (((2 : Nat) : Int) == 2) = true from rfl, show ((0 : Int) ≤ 0 ∧ (0 : Int) < ((2 : Nat) : Int)) from by decide, show ((0 : Int) ≤ 1 ∧ (1 : Int) < ((2 : Nat) : Int)) from by decide, show (1 : Int).toNat = 1 from rfl, Nat.one_mul, hg, hl3, hxs, hl3', hxs']
    refine RunV.to (ih a.nodes (by omega) a (Nat.le_refl _) (by omega) hoks.1 hba _ _ hd) ?_
    simp -implicitDefEqProofs (maxDischargeDepth := 15) only [↓reduceIte, Wb, Wc, Wu, opA, Wv, Ww, Wx, Wy, Wz, Za, Zb, Vg, partA, Zh, Zi, Zq, Zr, true_and, againOk, eq_self, hg, hl3', hxs']
    refine RunV.to (ih b.nodes (by omega) b (Nat.le_refl _) (by omega) hoks.2.1 hbb _ _ hd') ?_
    simp -implicitDefEqProofs (maxDischargeDepth := 15) only [↓reduceIte, Ys, Yt, Wb, Wu, opA, Wv, Ww, Wx, Wy, Wz, Za, Zb, Zc, Zd, Ze, Vb, Vc, Vd, AV.cells, Zf, Zg, Zh, Zi, Nat.reduceAdd, Nat.reduceLeDiff, Zj, Zk, Zm, Zn, Zo, Zp, Zs, fillA, and_self, eq_self]
    refine RunV.to (join_ok (ss := [(F.mk op nm ar [a, b]).head.1, a.txt, (F.mk op nm ar [a, b]).head.2, b.txt]) (strs_new rfl rfl) hb (by omega)) ?_
    simp -implicitDefEqProofs (maxDischargeDepth := 15) only [Yr, Ys, Yt, Wh, Wo, Wq, Wt, Wu, opA, Wv, Wx, Wy, Wz, Za, Zb, Vb, EndOk, resultA, oneOf, Zz]
    exact ⟨rfl, hE.trans (sub_push hW1 _)⟩
theorem form_ok (f : F) (hr : f.right = true) (hs : f.sane) (hb : f.txt.length ≤ 281474976710656) (σ : AState) (xs : List AV) (hD : DAtL σ.get f.dv xs) :
    RunF RR Tryz.prog n_describe_Form [.agg xs] σ (fun u σ' => u = .tuple [.str f.txt, .int .i64 0] ∧ σ' = σ) := by
  refine RunV.wf fun hW => RunV.forget rfl ?_
  refine runF_intro hmx rf_describe_Form ?_
  have hlx : 4 ≤ xs.length := by rw [hD.length, F.dv_len]; omega
  have htx : xs.take 4 = xs := List.take_of_length_le (by rw [hD.length, F.dv_len]; omega)
  have hE := sub_push hW (.cells xs true)
  have hD1 := DAtL.sub hE _ _ hD
  have hr' := hr
  simp only [F.right, Bool.and_eq_true, decide_eq_true_eq] at hr'
  simp -implicitDefEqProofs (maxDischargeDepth := 15) only [↓reduceIte, Yr, Ys, Yt, Wb, Wj, Wk, Wo, opA, Wv, Ww, Wx, Wy, Wz, Za, Zb, List.replicate, Zc, Zd, Ze, Vb, Vc, Vd, AV.cells, Vg, partA, Zf, Zg, Zh, Zi, Nat.reduceSub, Zk, Zm, i_describe_Form, c94_0, c94_1, c94_2, c94_3, c94_4, c94_5, c94_6, hlx, htx]
  refine RunV.to (right_ok f (by omega) hs _ _ hD1) ?_
  rw [hr]
  simp -implicitDefEqProofs (maxDischargeDepth := 15) only [↓reduceIte, Yr, Ys, Yt, Wa, Wb, Wg, Wj, Wk, Wl, Wo, Wu, opA, Wv, Ww, Wx, Wy, Wz, Za, Zb, Vb, Vg, partA, Zh, Zi, Zk, Zm, Yb, hlx, htx]
  refine RunV.to (text_ok _ f (Nat.le_refl _) (by omega) (F.shape_ok f hr'.2) hb _ _ hD1) ?_
  simp -implicitDefEqProofs (maxDischargeDepth := 15) only [Yr, Ys, Yt, Wh, Wo, Wu, opA, Wv, Ww, Wx, Wy, Wz, Za, Zb, Vb, true_and, EndOk, resultA, oneOf, Zz, eq_self]
  exact hE
end Go.Am
namespace Go.Am
open Go.RowKit Go.Proofs Do
set_option maxRecDepth 100000
theorem RunF.closedA {Rs : Code → AC → Prop} {P : Program} {f : Nat} {args : List AV} {v : AV} (hv : AV.flat v = true) (hargs : AV.flatL args = true) (h : RunF Rs P f args { get := fun _ => none, next := P.globals.size } (fun u _ => u = v)) (σ : AState) :
    RunF Rs P f args σ (fun u σ' => u = v ∧ σ' = σ) := fun w0 ρ D cf cargs w hf ha hS => by
  have h0 : SRel Rs P w (fun g => if g < P.globals.size then ρ g else none) ([], []) { get := fun _ => none, next := P.globals.size } w := {
    below := Below.refl _ _
    dom := fun i hi => ⟨by have hi' : P.globals.size ≤ i := hi; simp [show ¬ i < P.globals.size by omega], rfl⟩
    lt := fun i l e => by
      split at e
      · exact hS.lt i l e
      · cases e
    blk := fun i b l e => by cases e
    sep := fun i j b c l m _ e => by cases e
    defs := fun d hd => by cases hd
    nodup := List.nodup_nil
    loops := fun d hd => by cases hd
    glob := fun g hg => by
      obtain ⟨l, a, b⟩ := hS.glob g hg
      exact ⟨l, by simp [hg, a], b⟩ }
  have hf' : VRel (fun g => if g < P.globals.size then ρ g else none) (.func (.func f) [] []) cf := VRel.flat _ _ rfl hf
  have ha' : VRelL (fun g => if g < P.globals.size then ρ g else none) args cargs.toList := VRelL.flat _ _ hargs ha
  exact (h w _ ([], []) cf cargs w hf' ha' h0).mono fun cv w' ⟨u, ρ', σ', hu, _, _, hr, hS'⟩ => by
    subst hu
    exact ⟨u, ρ, σ, ⟨rfl, rfl⟩, Nat.le_refl _, RX.refl _ _, VRel.flat _ _ hv hr, hS.garbage hS'.below⟩
noncomputable def evA (f : Nat) (args : List AV) : Option (AV × EState) := evCall tabT.get (primE prT) 200 200 (.func (.func f) [] []) args ⟨.nil, Tryz.prog.globals.size⟩
theorem evA_ok {f : Nat} {args : List AV} {v : AV} {τ : EState} (hv : AV.flat v = true) (hargs : AV.flatL args = true) (h : evA f args = some (v, τ)) (σ : AState) : RunF RR Tryz.prog f args σ (fun u σ' => u = v ∧ σ' = σ) :=
  RunF.closedA hv hargs ((callOk 200 200 _ _ _ _ _ h).mono fun u σ' hh => hh.1) σ
def isStr (s : Str) : Option (AV × EState) → Bool
  | some (.str t, _) => t == s
  | _ => false
theorem isStr_ok {s : Str} {r : Option (AV × EState)} (h : isStr s r = true) : ∃ τ, r = some (.str s, τ) := by
  unfold isStr at h
  split at h
  · rename_i t τ; exact ⟨τ, by rw [eq_of_beq h]⟩
  · cases h
end Go.Am
namespace Go.Am
open Go.RowKit Go.Proofs Do
set_option maxRecDepth 100000
abbrev lookA (io il : Nat) : AV := .func (.func n_describe_OutlineS1) [] [.ptr (some (io, 0)), .ptr (some (il, 0))]
structure OutSt (σB : AState) (io il : Nat) (σ : AState) (lines : List Str) (o : Option (Nat × Nat)) (n : Nat) (c : Option Nat) (z : Nat) : Prop where
  out : σ.get io = some (.cells [.slice o n c z] true)
  look : σ.get il = some (.cells [lookA io il] true)
  grown : Grown σB σ o n c z 1 (lines.map .str)
  ne : io ≠ il
  geo : σB.next ≤ io
  gel : σB.next ≤ il
structure Kp (io : Nat) (σ σ' : AState) : Prop where
  le : σ.next ≤ σ'.next
  keep : ∀ j b, j ≠ io → (∀ ss : List Str, b ≠ .cells (ss.map .str) true) → σ.get j = some b → σ'.get j = some b
theorem Kp.refl (io : Nat) (σ : AState) : Kp io σ σ := ⟨Nat.le_refl _, fun _ _ _ _ e => e⟩
theorem Kp.trans {io : Nat} {a b c : AState} (h : Kp io a b) (k : Kp io b c) : Kp io a c := ⟨Nat.le_trans h.le k.le, fun j x hj hs e => k.keep j x hj hs (h.keep j x hj hs e)⟩
theorem Kp.push (io : Nat) {σ : AState} (h : σ.Wf) (b : ABlk) : Kp io σ (σ.push b) := ⟨Nat.le_succ _, fun j x _ _ e => sub_push h b j x e⟩
theorem OutSt.push {σB : AState} {io il : Nat} {σ : AState} {lines : List Str} {o : Option (Nat × Nat)} {n : Nat} {c : Option Nat} {z : Nat} (h : OutSt σB io il σ lines o n c z) (b : ABlk) : OutSt σB io il (σ.push b) lines o n c z :=
  ⟨sub_push h.grown.wf b _ _ h.out, sub_push h.grown.wf b _ _ h.look, h.grown.push b, h.ne, h.geo, h.gel⟩
theorem ne_of_strs {σ : AState} {i j : Nat} {b : ABlk} {ss : List Str} (hi : σ.get i = some (.cells (ss.map .str) true)) (hj : σ.get j = some b) (h : ∀ ss : List Str, b ≠ .cells (ss.map .str) true) : j ≠ i := by
  intro e; subst e; rw [hi] at hj; cases hj; exact h ss rfl
theorem Grown.set {σ0 σ : AState} {o : Option (Nat × Nat)} {n : Nat} {c : Option Nat} {z : Nat} {ss : List Str} (h : Grown σ0 σ o n c z 1 (ss.map .str)) {j : Nat} {b b' : ABlk} (hj : σ.get j = some b) (hb : ∀ ss : List Str, b ≠ .cells (ss.map .str) true) (hl : σ0.next ≤ j) : Grown σ0 (σ.set j b') o n c z 1 (ss.map .str) :=
  ⟨h.wf0, h.wf.set (h.wf.lt hj) _, fun i x e => by rw [Vl (by have := h.wf0.lt e; omega)]; exact h.keep i x e, h.le, h.len, h.at'.imp_right fun ⟨h1, h2, i, h3, h4, h5⟩ => ⟨h1, h2, i, h3, h4, by
    rw [Vl (Ne.symm (ne_of_strs h5 hj hb))]; exact h5⟩⟩
end Go.Am
namespace Go.Am
open Go.RowKit Go.Proofs Do
set_option maxRecDepth 100000
end Go.Am
namespace Go.Am
open Go.RowKit Go.Proofs Do
set_option maxRecDepth 100000
abbrev nilA : AV := .slice none 0 (some 0) 0
theorem wrap_u8 {n : Int} (h : 0 ≤ n ∧ n ≤ 255) : wrapF .u8 n = n := by
  rw [wrapF_eq, IntKind.wrap_u8]; omega
theorem tmodN (a b : Nat) : (a : Int).tmod (b : Int) = ((a % b : Nat) : Int) := (Int.ofNat_tmod a b).symm
theorem tdivN (a b : Nat) : (a : Int).tdiv (b : Int) = ((a / b : Nat) : Int) := (Int.ofNat_tdiv a b).symm
theorem atom_ok (σ : AState) (s : Str) (o : Option (Nat × Nat)) (n : Nat) (c : Option Nat) (z : Nat) : RunF RR Tryz.prog n_law30_atom [.str s, .slice o n c z] σ (fun u σ' => u = .agg [.int .u8 1, .str s, .slice o n c z, nilA] ∧ σ' = σ.push (.cells [.int .u8 1, .str s, .slice o n c z, nilA] true)) := by
  refine runF_intro hmx rf_law30_atom ?_
  simp -implicitDefEqProofs (maxDischargeDepth := 15) only [↓reduceIte, Yr, Ys, Yt, Wh, Wj, Wk, Wo, opA, Wv, Ww, Wx, Wy, Wz, Va, Za, Zb, List.replicate, Zc, Zd, Ze, Vb, Vc, Vd, Ve, AV.cells, Vg, Vn, partA, Zf, Zg, Zh, Zi, Nat.reduceAdd, Nat.reduceLeDiff, Nat.reduceSub, Zj, Zk, Zm, Zn, Zo, Zp, Zs, Zt, fillA, putL, allOne, Zu, Zv, AV.one, Zy, and_self, EndOk, resultA, oneOf, eq_self, i_law30_atom, c75_0, c75_1]
theorem joinB_ok (σ : AState) (op : Int) (o : Option (Nat × Nat)) (n : Nat) (c : Option Nat) (z : Nat) : RunF RR Tryz.prog n_law30_join [.int .u8 op, .slice o n c z] σ (fun u σ' => u = .agg [.int .u8 op, .str [], nilA, .slice o n c z] ∧ σ' = σ.push (.cells [.int .u8 op, .str [], nilA, .slice o n c z] true)) := by
  refine runF_intro hmx rf_law30_join ?_
  simp -implicitDefEqProofs (maxDischargeDepth := 15) only [↓reduceIte, Yr, Ys, Yt, Wh, Wj, Wk, Wo, opA, Wv, Wx, Wy, Wz, Va, Za, Zb, List.replicate, Zc, Zd, Ze, Vb, Vc, Vd, Ve, AV.cells, Vg, Vn, partA, Zf, Zg, Zh, Zi, Nat.reduceAdd, Nat.reduceLeDiff, Nat.reduceSub, Zj, Zk, Zm, Zn, Zo, Zp, Zs, Zt, fillA, putL, allOne, Zu, Zv, AV.one, Zy, and_self, EndOk, resultA, oneOf, eq_self, i_law30_join, c102_0, c102_1]
theorem variable_ok (σ : AState) (s : Str) : RunF RR Tryz.prog n_law30_variable [.str s] σ (fun u σ' => u = .agg [.bool true, .str s, nilA] ∧ σ' = σ) := by
  refine RunV.wf fun hW => RunV.forget rfl ?_
  refine runF_intro hmx rf_law30_variable ?_
  simp -implicitDefEqProofs (maxDischargeDepth := 15) only [↓reduceIte, Yr, Ys, Yt, Wh, Wj, Wk, Wo, opA, Wv, Ww, Wx, Wy, Wz, Va, Za, Zb, List.replicate, Zc, Zd, Ze, Vb, Vc, Vd, Ve, AV.cells, Vg, Vn, partA, Zf, Zg, Zh, Zi, Nat.reduceAdd, Nat.reduceLeDiff, Nat.reduceSub, Zj, Zk, Zm, Zn, Zo, Zp, Zs, Zt, fillA, putL, allOne, Zu, Zv, AV.one, Zy, and_self, true_and, EndOk, resultA, oneOf, eq_self, i_law30_variable, c51_0, c51_1]
  exact sub_push hW _
theorem applyN_ok (σ : AState) (s : Str) : RunF RR Tryz.prog n_law30_apply [.str s, nilA] σ (fun u σ' => u = .agg [.bool false, .str s, nilA] ∧ σ' = σ) := by
  refine RunV.wf fun hW => RunV.forget rfl ?_
  refine runF_intro hmx rf_law30_apply ?_
  simp -implicitDefEqProofs (maxDischargeDepth := 15) only [↓reduceIte, Yr, Ys, Yt, Wh, Wj, Wk, Wo, opA, Wv, Wx, Wy, Wz, Va, Za, Zb, List.replicate, Zc, Zd, Ze, Vb, Vc, Vd, Ve, AV.cells, Vg, Vn, partA, Zf, Zg, Zh, Zi, Nat.reduceAdd, Nat.reduceLeDiff, Nat.reduceSub, Zj, Zk, Zm, Zn, Zo, Zp, Zs, Zt, fillA, putL, allOne, Zu, Zv, AV.one, Zy, and_self, true_and, EndOk, resultA, oneOf, eq_self, i_law30_apply, c104_0, c104_1]
  exact sub_push hW _
theorem apply_ok (σ : AState) (s : Str) (o : Option (Nat × Nat)) (n : Nat) (c : Option Nat) (z : Nat) : RunF RR Tryz.prog n_law30_apply [.str s, .slice o n c z] σ (fun u σ' => u = .agg [.bool false, .str s, .slice o n c z] ∧ σ' = σ.push (.cells [.bool false, .str s, .slice o n c z] true)) := by
  refine runF_intro hmx rf_law30_apply ?_
  simp -implicitDefEqProofs (maxDischargeDepth := 15) only [↓reduceIte, Yr, Ys, Yt, Wh, Wj, Wk, Wo, opA, Wv, Wx, Wy, Wz, Va, Za, Zb, List.replicate, Zc, Zd, Ze, Vb, Vc, Vd, Ve, AV.cells, Vg, Vn, partA, Zf, Zg, Zh, Zi, Nat.reduceAdd, Nat.reduceLeDiff, Nat.reduceSub, Zj, Zk, Zm, Zn, Zo, Zp, Zs, Zt, fillA, putL, allOne, Zu, Zv, AV.one, Zy, and_self, EndOk, resultA, oneOf, eq_self, i_law30_apply, c104_0, c104_1]
def tb0 (k : Nat) : List AV := if k = 0 then [.bool true, .str [120], nilA] else if k = 1 then [.bool true, .str [121], nilA] else if k = 2 then [.bool true, .str [122], nilA] else if k = 3 then [.bool false, .str [97], nilA] else [.bool false, .str [98], nilA]
def tbL : List AV := [.bool true, .str [120], nilA, .bool true, .str [121], nilA, .bool true, .str [122], nilA, .bool false, .str [97], nilA, .bool false, .str [98], nilA]
theorem tbL_at : ∀ k, k < 5 → (tbL.drop (k * 3)).take 3 = tb0 k ∧ k * 3 + 3 ≤ 15
  | 0, _ | 1, _ | 2, _ | 3, _ | 4, _ => ⟨rfl, by omega⟩
  | k + 5, h => absurd h (by omega)
theorem dat_nil (g : Mem) (sz : Nat) : DAt g (.sl sz 0 []) nilA := by
  rw [DAt]; exact ⟨none, some 0, 0, rfl, .inl rfl, .inl rfl, fun _ => rfl⟩
theorem tdat_nil (g : Mem) (v : Bool) (s : Str) : DAtL g (T.mk v s []).dv [.bool v, .str s, nilA] :=
  DAtL.cons_iff.2 ⟨_, _, rfl, by simp only [DAt], DAtL.cons_iff.2 ⟨_, _, rfl, by simp only [DAt], DAtL.cons_iff.2 ⟨_, _, rfl, dat_nil g 3, DAtL.nil_iff.2 rfl⟩⟩⟩
theorem dat_sl {g : Mem} {sz n i : Nat} {ds : List DV} {cs : List AV} {w : Bool} (c : Option Nat) (hg : g i = some (.cells cs w)) (hl : cs.length = n * sz) (hd : DAtL g ds cs) : DAt g (.sl sz n ds) (.slice (some (i, 0)) n c sz) := by
  rw [DAt]
  refine ⟨some (i, 0), c, sz, rfl, .inr rfl, .inr ⟨cs, ?_, hd⟩, fun h => by cases h⟩
  simp only [cellsAt, hg, List.drop_zero, Nat.zero_add]
  rw [if_pos (by omega), List.take_of_length_le (by omega)]
theorem Grow.set {σ σ' : AState} (h : Grow σ σ') (hW : σ.Wf) {j : Nat} (h1 : σ.next ≤ j) (h2 : j < σ'.next) (b : ABlk) : Grow σ (σ'.set j b) :=
  ⟨h.le, fun i x e => by rw [Vl (by have := hW.lt e; omega)]; exact h.sub i x e, h.wf.set h2 b⟩
theorem tb0_dat (g : Mem) : ∀ k, k < 5 → DAtL g (bTerm0 k).dv (tb0 k)
  | 0, _ | 1, _ | 2, _ | 3, _ | 4, _ => tdat_nil g _ _
  | k + 5, h => absurd h (by omega)
theorem tb0_cells : ∀ k, k < 5 → ∃ v s, tb0 k = [.bool v, .str s, nilA]
  | 0, _ | 1, _ | 2, _ | 3, _ | 4, _ => ⟨_, _, rfl⟩
  | k + 5, h => absurd h (by omega)
def newer (σ σ' : AState) : Mem := fun j => if j < σ.next then none else σ'.get j
theorem newer_mk {σ σ' : AState} {j : Nat} {b : ABlk} (h : σ.next ≤ j) (k : σ'.get j = some b) : newer σ σ' j = some b := by
  unfold newer; rw [if_neg (by omega)]; exact k
theorem newer_some {σ σ' : AState} {j : Nat} {b : ABlk} (h : newer σ σ' j = some b) : σ.next ≤ j ∧ σ'.get j = some b := by
  unfold newer at h
  split at h
  · cases h
  · exact ⟨by omega, h⟩
theorem bterm_ok (b : Nat) (hb : b < 256) (σ : AState) : RunF RR Tryz.prog n_law30_term [.int .u8 b] σ (fun u σ' => ∃ xs, u = .agg xs ∧ DAtL (newer σ σ') (bTerm b).dv xs ∧ Grow σ σ') := by
  refine RunV.wf fun hW => ?_
  refine runF_intro hmx rf_law30_term ?_
  have m5 : (b : Int).tmod 5 = ((b % 5 : Nat) : Int) := tmodN b 5
  have d5 : (b : Int).tdiv 5 = ((b / 5 : Nat) : Int) := tdivN b 5
  have m3 : ((b / 5 : Nat) : Int).tmod 3 = ((b / 5 % 3 : Nat) : Int) := tmodN _ 3
  have w1 : wrapF .u8 ((b / 5 : Nat) : Int) = ((b / 5 : Nat) : Int) := wrap_u8 (by omega)
  have z5 : ((5 : Int) = 0) = False := by simp
  have z3 : ((3 : Int) = 0) = False := by simp
  obtain ⟨hk1, hk2⟩ := tbL_at (b % 5) (by omega)
  obtain ⟨v0, s0, e0⟩ := tb0_cells (b % 5) (by omega)
  rw [e0] at hk1
  have hd0 := fun g => tb0_dat g (b % 5) (by omega)
  rw [e0] at hd0
  have e1 : (0 : Int) ≤ ((b % 5 : Nat) : Int) ∧ ((b % 5 : Nat) : Int) < ((5 : Nat) : Int) := by omega
  simp -implicitDefEqProofs (maxDischargeDepth := 15) only [Yr, Ys, Yt, Wb, Wj, Wk, Wo, opA, Ww, Wz, Za, Zb, List.replicate, Zc, Zd, Ze, Vb, Vc, Vd, Zf, Zg, Zh, Zi, Nat.reduceSub, Zk, i_law30_term, c61_0, c61_1, c61_2, c61_3, c61_4, c61_5, c61_6, c61_7, c61_8, c61_9, c61_10, c61_11]
  refine RunV.to (variable_ok _ _) ?_
  simp -implicitDefEqProofs (maxDischargeDepth := 15) only [Wb, Wu, Ww, Wz, Za, Zb, Zh, Zi]
  refine RunV.to (variable_ok _ _) ?_
  simp -implicitDefEqProofs (maxDischargeDepth := 15) only [Wb, Wu, Ww, Wz, Za, Zb, Zh, Zi]
  refine RunV.to (variable_ok _ _) ?_
  simp -implicitDefEqProofs (maxDischargeDepth := 15) only [Wb, Wu, Ww, Wz, Za, Zb, Zh, Zi]
  refine RunV.to (applyN_ok _ _) ?_
  simp -implicitDefEqProofs (maxDischargeDepth := 15) only [Wb, Wu, Ww, Wz, Za, Zb, Zh, Zi]
  refine RunV.to (applyN_ok _ _) ?_
  have hk1' := hk1
  simp only [tbL] at hk1'
  cases h3 : decide (((b / 5 % 3 : Nat) : Int) > 0)
  · simp -implicitDefEqProofs (maxDischargeDepth := 15) only [↓reduceIte, Yr, Ys, Yt, Wa, Wg, Wh, Wj, Wk, Wl, Wo, Wu, opA, Wv, Ww, Wx, Wy, Wz, Va, Za, Zb, Zc, Zd, Ze, Vb, Vc, Vd, Ve, AV.cells, Vg, Vh, Vi, Vj, Vk, Vn, partA, Zf, Zg, Zh, Zi, Nat.reduceAdd, Nat.reduceLeDiff, Zj, Zk, Zm, Zn, Zo, Zp, Zs, Zt, binA, fillA, putL, allOne, Zu, Zv, AV.one, Zy, and_self, EndOk, resultA, oneOf, Yf, eq_self, m5, d5, m3, w1, z5, z3, hk1', hk2, e1, h3]
    refine ⟨_, rfl, ?_, ?_⟩
    · have h3' : ¬ (0 < b / 5 % 3) := by simp only [decide_eq_false_iff_not] at h3; omega
      have : bTerm b = bTerm0 (b % 5) := by unfold bTerm; rw [if_neg h3']
      rw [this]
      exact hd0 _
    · exact ((((Grow.refl hW).push _).push _).push _).set hW (Nat.le_refl _) (by simp only [AState.push_next]; omega) _
  · have h3' : 0 < b / 5 % 3 := by simp only [decide_eq_true_eq] at h3; omega
    have w2 : wrapF .u8 (((b / 5 % 3 : Nat) : Int) - 1) = ((b / 5 % 3 - 1 : Nat) : Int) := by rw [wrap_u8 (by omega)]; omega
    have e2 : (0 : Int) ≤ ((b / 5 % 3 - 1 : Nat) : Int) ∧ ((b / 5 % 3 - 1 : Nat) : Int) < ((2 : Nat) : Int) := by omega
    have g2 : ([.str [102], .str [103]] : List AV)[b / 5 % 3 - 1]? = some (.str [if b / 5 % 3 = 1 then 102 else 103]) := by
      have : b / 5 % 3 = 1 ∨ b / 5 % 3 = 2 := by omega
      rcases this with e | e <;> rw [e] <;> rfl
    simp -implicitDefEqProofs (maxDischargeDepth := 15) only [↓reduceIte, Yr, Ys, Yt, Yz, Wb, Wj, Wk, Wl, Wo, Wu, opA, Wv, Ww, Wx, Wy, Wz, Va, Za, Zb, Zc, Zd, Ze, Vb, Vc, Vd, Ve, AV.cells, Vg, Vh, Vi, Vn, partA, Zf, Zg, Zh, Zi, Nat.reduceAdd, Nat.reduceLeDiff, Zj, Zk, Zm, Zn, Zo, Zp, Zs, Zt, binA, fillA, putL, allOne, Zu, Zv, AV.one, Zy, and_self, Yf, eq_self, m5, d5, m3, w1, z5, z3, hk1', hk2, e1, h3, w2, e2, g2, Nat.mul_one]
    refine RunV.to (apply_ok _ _ _ _ _ _) ?_
    simp -implicitDefEqProofs (maxDischargeDepth := 15) only [↓reduceIte, Yr, Ys, Yt, Wh, Wj, Wk, Wo, Wu, opA, Wv, Wx, Wy, Wz, Va, Za, Zb, Zd, Ze, Vb, Vc, Ve, AV.cells, Vg, Vh, Vi, Vj, Vk, Vl, Vq, partA, Zf, Zg, Nat.reduceAdd, Zj, Zk, Zm, Zn, Zo, Zp, Zs, Zt, putL, allOne, Zu, Zv, AV.one, Zy, and_self, EndOk, resultA, oneOf, eq_self, ne_eq, Yo]
    refine ⟨_, rfl, ?_, ?_⟩
    · have : bTerm b = tf (if b / 5 % 3 = 1 then 102 else 103) [bTerm0 (b % 5)] := by unfold bTerm; rw [if_pos h3']
      rw [this]
      refine DAtL.cons_iff.2 ⟨_, _, rfl, by simp only [DAt], DAtL.cons_iff.2 ⟨_, _, rfl, by simp only [DAt], DAtL.cons_iff.2 ⟨_, _, rfl, ?_, DAtL.nil_iff.2 rfl⟩⟩⟩
      show DAt _ (.sl 3 1 ((bTerm0 (b % 5)).dv ++ [])) _
      rw [List.append_nil]
      refine dat_sl (cs := [.bool v0, .str s0, nilA]) (w := true) (some 1) ?_ rfl (hd0 _)
      refine newer_mk (by simp only [AState.push_next]; omega) ?_
      rw [Vl (by simp only [AState.push_next, ne_eq]; omega), Vl (by simp only [AState.push_next, ne_eq]; omega), Vh (by simp only [AState.push_next]; omega), Vg]
    · refine ((((((((Grow.refl hW).push _).push _).push _).push _).push _).push _).set hW ?_ ?_ _).set hW (Nat.le_refl _) ?_ _
      · simp only [AState.push_next]; omega
      · simp only [AState.push_next]; omega
      · simp only [AState.push_next, AState.set_next]; omega
theorem bound_ok (σ : AState) (op : Int) (nm : Str) (x0 : Int) (x1 : Str) (o : Option (Nat × Nat)) (n : Nat) (c : Option Nat) (z : Nat) (o' : Option (Nat × Nat)) (n' : Nat) (c' : Option Nat) (z' : Nat) :
    RunF RR Tryz.prog n_law30_bound [.int .u8 op, .str nm, .agg [.int .u8 x0, .str x1, .slice o n c z, .slice o' n' c' z']] σ
      (fun u σ' => ∃ i, u = .agg [.int .u8 op, .str nm, nilA, .slice (some (i, 0)) 1 (some 1) 4] ∧ σ.next ≤ i ∧ σ'.get i = some (.cells [.int .u8 x0, .str x1, .slice o n c z, .slice o' n' c' z'] true) ∧ Grow σ σ') := by
  refine RunV.wf fun hW => ?_
  refine runF_intro hmx rf_law30_bound ?_
  simp -implicitDefEqProofs (maxDischargeDepth := 15) only [↓reduceIte, Yr, Ys, Yt, Wh, Wj, Wk, Wo, opA, Wv, Wx, Wy, Wz, Va, Za, Zb, List.replicate, Zc, Zd, Ze, Vb, Vc, Vd, Ve, AV.cells, Vg, Vh, Vi, Vk, partA, Zf, Zg, Zh, Zi, Nat.reduceAdd, Nat.reduceLeDiff, Nat.reduceSub, Zj, Zk, Zm, Zn, Zo, Zp, Zs, Zt, fillA, putL, allOne, Zu, Zv, AV.one, Zy, and_self, EndOk, resultA, oneOf, eq_self, i_law30_bound, c16_0, c16_1]
  refine ⟨_, rfl, ?_, ?_, ?_⟩
  · simp only [AState.push_next]; omega
  · rw [Vl (by simp only [AState.push_next, ne_eq]; omega), Vg]
  · exact ((((Grow.refl hW).push _).push _).push _).set hW (by simp only [AState.push_next]; omega) (by simp only [AState.push_next]; omega) _
end Go.Am
namespace Go.Am
open Go.RowKit Go.Proofs Do
set_option maxRecDepth 100000
def but (e : Nat) (σ : AState) (so : Option (Nat × Nat)) : Mem := fun j => if so = some (j, 0) ∨ j ≤ e then none else σ.get j
theorem but_some {e : Nat} {σ : AState} {so : Option (Nat × Nat)} {j : Nat} {b : ABlk} (h : but e σ so j = some b) : so ≠ some (j, 0) ∧ σ.get j = some b ∧ e < j := by
  unfold but at h
  split at h
  · cases h
  · rename_i q; exact ⟨fun h1 => q (.inl h1), h, Nat.lt_of_not_le fun h1 => q (.inr h1)⟩
theorem but_mk {e : Nat} {σ : AState} {so : Option (Nat × Nat)} {j : Nat} {b : ABlk} (h : so ≠ some (j, 0)) (k : σ.get j = some b) (he : e < j) : but e σ so j = some b := by
  unfold but; rw [if_neg (by rintro (q | q); exact h q; omega)]; exact k
theorem but_sub {e : Nat} {σ σ' : AState} {so : Option (Nat × Nat)} (h : Sub σ.get σ'.get) : Sub (but e σ so) (but e σ' so) := fun j b q => by
  obtain ⟨h1, h2, h3⟩ := but_some q
  exact but_mk h1 (h _ _ h2) h3
structure Stk (e : Nat) (σ0 σ : AState) (so : Option (Nat × Nat)) (n : Nat) (c : Option Nat) (z : Nat) (s : List F) (cs : List AV) : Prop where
  grown : Grown σ0 σ so n c z 4 cs
  dat : DAtL (but e σ so) (F.dvs s) cs
  len : s.length = n
  elt : e < σ0.next
theorem Stk.el {e : Nat} {σ0 σ : AState} {so : Option (Nat × Nat)} {n : Nat} {c : Option Nat} {z : Nat} {s : List F} {cs : List AV} (h : Stk e σ0 σ so n c z s cs) : e < σ.next := Nat.lt_of_lt_of_le h.elt h.grown.le
theorem Grown.grow {σ0 σ σ' : AState} {o : Option (Nat × Nat)} {n : Nat} {c : Option Nat} {z sz : Nat} {cs : List AV} (h : Grown σ0 σ o n c z sz cs) (k : Grow σ σ') : Grown σ0 σ' o n c z sz cs :=
  ⟨h.wf0, k.wf, fun i b e => k.sub i b (h.keep i b e), Nat.le_trans h.le k.le, h.len, h.at'.imp_right fun ⟨h1, h2, i, h3, h4, h5⟩ => ⟨h1, h2, i, h3, h4, k.sub _ _ h5⟩⟩
theorem Stk.grow {e : Nat} {σ0 σ σ' : AState} {so : Option (Nat × Nat)} {n : Nat} {c : Option Nat} {z : Nat} {s : List F} {cs : List AV} (h : Stk e σ0 σ so n c z s cs) (k : Grow σ σ') : Stk e σ0 σ' so n c z s cs :=
  ⟨h.grown.grow k, DAtL.sub (but_sub k.sub) _ _ h.dat, h.len, h.elt⟩
theorem Stk.push {e : Nat} {σ0 σ : AState} {so : Option (Nat × Nat)} {n : Nat} {c : Option Nat} {z : Nat} {s : List F} {cs : List AV} (h : Stk e σ0 σ so n c z s cs) (b : ABlk) : Stk e σ0 (σ.push b) so n c z s cs :=
  h.grow ((Grow.refl h.grown.wf).push b)
theorem dvs_append (a b : List F) : F.dvs (a ++ b) = F.dvs a ++ F.dvs b := by
  induction a with
  | nil => rfl
  | cons x a ih => simp only [List.cons_append, F.dvs, ih, List.append_assoc]
theorem dvs_one (f : F) : F.dvs [f] = f.dv := by simp [F.dvs]
theorem dvs_take (s : List F) (k : Nat) : F.dvs (s.take k) = (F.dvs s).take (k * 4) := by
  induction s generalizing k with
  | nil => simp [F.dvs]
  | cons a r ih =>
    cases k with
    | zero => simp [F.dvs]
    | succ k =>
      simp only [List.take_succ_cons, F.dvs, ih]
      rw [show (k + 1) * 4 = a.dv.length + k * 4 by rw [F.dv_len]; omega, List.take_length_add_append]
theorem appendA_new {g : Mem} {next sz b : Nat} {s : AV} {xs : List AV} {i n' sz' : Nat} {es : List Eff} (h : appendA g next sz b s 1 xs = some (.slice (some (i, 0)) n' none sz', es)) : i = next := by
  unfold appendA at h
  cases s <;> simp only at h <;> try cases h
  split at h
  case isFalse => cases h
  rw [if_neg (by decide)] at h
  split at h
  · split at h
    · simp only [Option.some.injEq, Prod.mk.injEq, AV.slice.injEq] at h; exact h.1.1.1.symm
    · cases h
  · split at h
    · split at h
      · split at h
        · split at h
          · simp only [Option.some.injEq, Prod.mk.injEq, AV.slice.injEq] at h; exact absurd h.1.2.2.1 (by simp)
          · cases h
        · split at h
          · simp only [Option.some.injEq, Prod.mk.injEq, AV.slice.injEq] at h; exact h.1.1.1.symm
          · cases h
      · split at h
        · simp only [Option.some.injEq, Prod.mk.injEq, AV.slice.injEq] at h; exact h.1.1.1.symm
        · cases h
    · cases h
theorem Stk.append {e : Nat} {σ0 σ : AState} {so : Option (Nat × Nat)} {n : Nat} {c : Option Nat} {z : Nat} {s : List F} {cs : List AV} (h : Stk e σ0 σ so n c z s cs) {f : F} {xs : List AV} (hd : DAtL (but e σ so) f.dv xs) (ho : allOne xs = true) (hn : n ≤ 1000000) :
    ∃ i es, appendA σ.get σ.next 4 72 (.slice so n c z) 1 xs = some (.slice (some (i, 0)) (n + 1) none 4, es) ∧ Stk e σ0 (σ.app es) (some (i, 0)) (n + 1) none 4 (s ++ [f]) (cs ++ xs) := by
  have hxl : xs.length = 4 := by rw [hd.length, F.dv_len]
  obtain ⟨i, es, he, hG, hle, hk⟩ := h.grown.append (bytes := 72) (by omega) hxl ho (decide_eq_true (by omega))
  refine ⟨i, es, he, hG, ?_, by simp [h.len], h.elt⟩
  have hsub : Sub (but e σ so) (but e (σ.app es) (some (i, 0))) := fun j b e => by
    obtain ⟨h1, h2, h3⟩ := but_some e
    refine but_mk ?_ (hk j b (fun i' hi' q => by subst q; exact h1 hi') h2) h3
    intro q
    cases q
    have hj := h.grown.wf.lt h2
    have hi := appendA_new he
    omega
  rw [dvs_append, dvs_one]
  exact DAtL.append_iff.2 ⟨cs, xs, rfl, DAtL.sub hsub _ _ h.dat, DAtL.sub hsub _ _ hd⟩
theorem Stk.elem {e : Nat} {σ0 σ : AState} {so : Option (Nat × Nat)} {n : Nat} {c : Option Nat} {z : Nat} {s : List F} {cs : List AV} (h : Stk e σ0 σ so n c z s cs) {k : Nat} {f : F} (hk : s[k]? = some f) :
    z = 4 ∧ ∃ i xs, so = some (i, 0) ∧ σ.get i = some (.cells cs true) ∧ k * 4 + 4 ≤ cs.length ∧ (cs.drop (k * 4)).take 4 = xs ∧ DAtL (but e σ so) f.dv xs := by
  have hkl : k < s.length := by
    rcases Nat.lt_or_ge k s.length with q | q
    · exact q
    · rw [List.getElem?_eq_none q] at hk; cases hk
  have hl := h.grown.len
  have hn := h.len
  rcases h.grown.at' with ⟨_, q⟩ | ⟨_, hz, i, hi, _, hg⟩
  · omega
  · refine ⟨hz, i, _, hi, hg, by omega, rfl, ?_⟩
    have := (h.dat.drop (k * 4)).take 4
    rw [F.dvs_get s k f hk] at this
    exact this
theorem Stk.appendTake {e : Nat} {σ0 σ : AState} {so : Option (Nat × Nat)} {n : Nat} {c : Option Nat} {z : Nat} {s : List F} {cs : List AV} (h : Stk e σ0 σ so n c z s cs) {i k : Nat} (hso : so = some (i, 0)) (hk : k ≤ n) {f : F} {xs : List AV} (hd : DAtL (but e σ so) f.dv xs) (hn : n ≤ 1000000) :
    appendA σ.get σ.next 4 72 (.slice so k (some k) 4) 1 xs = some (.slice (some (σ.next, 0)) (k + 1) none 4, [.push (.cells (cs.take (k * 4) ++ xs) true)]) ∧
    Stk e σ0 (σ.push (.cells (cs.take (k * 4) ++ xs) true)) (some (σ.next, 0)) (k + 1) none 4 (s.take k ++ [f]) (cs.take (k * 4) ++ xs) := by
  subst hso
  have hxl : xs.length = 4 := by rw [hd.length, F.dv_len]
  have hl := h.grown.len
  rcases h.grown.at' with ⟨q, _⟩ | ⟨_, hz, i', hi, hge, hg⟩
  · cases q
  cases hi
  have hgr : grows (k + 1) 72 = true := decide_eq_true (by omega)
  constructor
  · have h1 : ¬ (k + 1 ≤ k) := by omega
    have h2 : k * 4 ≤ cs.length := by omega
    simp [appendA, hg, hgr, h2]
  · have hlen : (cs.take (k * 4) ++ xs).length = (k + 1) * 4 := by rw [List.length_append, List.length_take, hxl]; omega
    refine ⟨⟨h.grown.wf0, h.grown.wf.push _, fun j b e => sub_push h.grown.wf _ j b (h.grown.keep j b e), Nat.le_succ_of_le h.grown.le, hlen, .inr ⟨rfl, rfl, σ.next, rfl, h.grown.le, Vg⟩⟩, ?_, by have := h.len; simp; omega, h.elt⟩
    have hsub : Sub (but e σ (some (i, 0))) (but e (σ.push (.cells (cs.take (k * 4) ++ xs) true)) (some (σ.next, 0))) := fun j b e => by
      obtain ⟨h1, h2, h3⟩ := but_some e
      refine but_mk ?_ (sub_push h.grown.wf _ j b h2) h3
      intro q; cases q
      have := h.grown.wf.lt h2; omega
    rw [dvs_append, dvs_one, dvs_take]
    exact DAtL.append_iff.2 ⟨_, xs, rfl, DAtL.sub hsub _ _ (h.dat.take _), DAtL.sub hsub _ _ hd⟩
end Go.Am
namespace Go.Am
open Go.RowKit Go.Proofs Do
set_option maxRecDepth 100000
def Bys (g : Mem) (o : Option (Nat × Nat)) (n z : Nat) (l : List Nat) : Prop :=
  (o = none ∧ n = 0 ∧ l = []) ∨ (l.length = n ∧ z = 1 ∧ ∃ i off cs w, o = some (i, off) ∧ g i = some (.cells cs w) ∧ off + n ≤ cs.length ∧ (cs.drop off).take n = l.map (fun (x : Nat) => AV.int .u8 x))
theorem Bys.len {g : Mem} {o : Option (Nat × Nat)} {n z : Nat} {l : List Nat} (h : Bys g o n z l) : l.length = n := by
  rcases h with ⟨_, h, rfl⟩ | ⟨h, _⟩
  · exact h.symm
  · exact h
theorem Bys.sub {g h : Mem} (s : Sub g h) {o : Option (Nat × Nat)} {n z : Nat} {l : List Nat} (e : Bys g o n z l) : Bys h o n z l :=
  e.imp_right fun ⟨a, b, i, off, cs, w, h1, h2, h3⟩ => ⟨a, b, i, off, cs, w, h1, s _ _ h2, h3⟩
theorem Bys.elem {g : Mem} {o : Option (Nat × Nat)} {n z : Nat} {l : List Nat} (h : Bys g o n z l) {k x : Nat} (hx : l[k]? = some x) : z = 1 ∧ ∃ i off cs w, o = some (i, off) ∧ g i = some (.cells cs w) ∧ cs[off + k]? = some (.int .u8 x) := by
  have hk : k < l.length := by
    rcases Nat.lt_or_ge k l.length with q | q
    · exact q
    · rw [List.getElem?_eq_none q] at hx; cases hx
  rcases h with ⟨_, h, rfl⟩ | ⟨a, b, i, off, cs, w, h1, h2, h3, h4⟩
  · cases hx
  refine ⟨b, i, off, cs, w, h1, h2, ?_⟩
  have : ((cs.drop off).take n)[k]? = some (.int .u8 x) := by rw [h4, List.getElem?_map, hx]; rfl
  rw [List.getElem?_take_of_lt (by omega), List.getElem?_drop] at this
  exact this
theorem fdat {g : Mem} {op : Nat} {nm : Str} {ar : List T} {l : List F} {v1 v2 : AV} (h1 : DAt g (.sl 3 ar.length (T.dvs ar)) v1) (h2 : DAt g (.sl 4 l.length (F.dvs l)) v2) : DAtL g (F.mk op nm ar l).dv [.int .u8 op, .str nm, v1, v2] :=
  DAtL.cons_iff.2 ⟨_, _, rfl, by simp only [DAt], DAtL.cons_iff.2 ⟨_, _, rfl, by simp only [DAt], DAtL.cons_iff.2 ⟨_, _, rfl, h1, DAtL.cons_iff.2 ⟨_, _, rfl, h2, DAtL.nil_iff.2 rfl⟩⟩⟩⟩
theorem foldl_take {α β : Type} (f : β → α → β) (b : β) {l : List α} {k : Nat} {x : α} (h : l[k]? = some x) : (l.take (k + 1)).foldl f b = f ((l.take k).foldl f b) x := by
  rw [List.take_add_one, h]; simp
theorem term_is : ∀ t : T, ∃ v n a, t = .mk v n a
  | .mk v n a => ⟨v, n, a, rfl⟩
theorem form_is : ∀ f : F, ∃ op n a l, f = .mk op n a l
  | .mk op n a l => ⟨op, n, a, l, rfl⟩
theorem sub_newer {e : Nat} {σ' σ2 : AState} {so : Option (Nat × Nat)} (h : ∀ i, so = some (i, 0) → i < σ'.next) (he : e < σ'.next) : Sub (newer σ' σ2) (but e σ2 so) := fun j b q => by
  obtain ⟨h1, h2⟩ := newer_some q
  exact but_mk (fun q => by have := h j q; omega) h2 (by omega)
theorem Stk.lt {e : Nat} {σ1 σ' : AState} {so : Option (Nat × Nat)} {sn : Nat} {sc : Option Nat} {sz : Nat} {s : List F} {cs : List AV} (h : Stk e σ1 σ' so sn sc sz s cs) : ∀ i, so = some (i, 0) → i < σ'.next := fun i hi => by
  rcases h.grown.at' with ⟨q, _⟩ | ⟨_, _, i', q, _, hg⟩
  · rw [q] at hi; cases hi
  · rw [q] at hi; cases hi; exact h.grown.wf.lt hg
theorem bsw1 {e : Nat} {σ1 σ' : AState} {v0 p2 : AV} {k : Nat} {so : Option (Nat × Nat)} {sn : Nat} {sc : Option Nat} {sz : Nat} {s : List F} {cs : List AV} (hS : Stk e σ1 σ' so sn sc sz s cs) (hsn : sn ≤ 20) {x : Nat} (hx : x < 256) (hr : x % 12 < 2) {j1 j8 j9 j10 j11 j12 j13 j14 j15 j16 j17 j18 j19 j20 j21 j22 j23 j24 j25 j26 j27 j28 j29 j30 j31 j32 j33 j34 j35 j36 j37 j38 j39 j40 j41 j42 j43 j44 j45 j46 j47 j48 j49 j50 j51 j52 j53 j54 j55 j56 j57 j58 j59 j60 j61 j62 j63 j64 j65 j66 j67 j68 j69 j70 j71 j72 j73 j74 j75 j76 j77 j78 j79 j80 j81 j82 j83 j84 j85 j86 j87 j88 j89 j90 j91 j92 j93 j94 j95 j96 j97 j98 j99 j100 j101 j102 j103 j104 j105 j106 j107 j108 j109 j110 j111 j112 j113 j114 j115 j116 j117 j118 j119 j120 j121 j122 j123 j124 j125 j126 j127 j128 j129 j130 j131 j132 j133 j134 j135 j136 j137 j138 j139 j140 j141 j142 j143 j144 j145 j146 j147 j148 j149 j150 j151 j152 j153 j154 j155 j156 j157 j158 j159 j160 j161 j162 j163 j164 j165 j166 j167 j168 j169 j170 j171 j172 j173 j174 j175 j176 j177 j178 j179 j180 j181 j182 j183 j184 j185 j186 j187 j188 j189 j190 j191 : AV} {Q : Ex → List AV → AState → Prop}
    (hQ : ∀ (σ'' : AState) (so' : Option (Nat × Nat)) (sn' : Nat) (sc' : Option Nat) (sz' : Nat) (cs' : List AV) (j1 j5 j6 j7 j8 j9 j10 j11 j12 j13 j14 j15 j16 j17 j18 j19 j20 j21 j22 j23 j24 j25 j26 j27 j28 j29 j30 j31 j32 j33 j34 j35 j36 j37 j38 j39 j40 j41 j42 j43 j44 j45 j46 j47 j48 j49 j50 j51 j52 j53 j54 j55 j56 j57 j58 j59 j60 j61 j62 j63 j64 j65 j66 j67 j68 j69 j70 j71 j72 j73 j74 j75 j76 j77 j78 j79 j80 j81 j82 j83 j84 j85 j86 j87 j88 j89 j90 j91 j92 j93 j94 j95 j96 j97 j98 j99 j100 j101 j102 j103 j104 j105 j106 j107 j108 j109 j110 j111 j112 j113 j114 j115 j116 j117 j118 j119 j120 j121 j122 j123 j124 j125 j126 j127 j128 j129 j130 j131 j132 j133 j134 j135 j136 j137 j138 j139 j140 j141 j142 j143 j144 j145 j146 j147 j148 j149 j150 j151 j152 j153 j154 j155 j156 j157 j158 j159 j160 j161 j162 j163 j164 j165 j166 j167 j168 j169 j170 j171 j172 j173 j174 j175 j176 j177 j178 j179 j180 j181 j182 j183 j184 j185 j186 j187 j188 j189 j190 j191 : AV), Stk e σ1 σ'' so' sn' sc' sz' (bStep s x) cs' → sn' ≤ sn + 1 → Q .normal [v0, j1, p2, .slice so' sn' sc' sz', .int .i64 k, j5, j6, j7, j8, j9, j10, j11, j12, j13, j14, j15, j16, j17, j18, j19, j20, j21, j22, j23, j24, j25, j26, j27, j28, j29, j30, j31, j32, j33, j34, j35, j36, j37, j38, j39, j40, j41, j42, j43, j44, j45, j46, j47, j48, j49, j50, j51, j52, j53, j54, j55, j56, j57, j58, j59, j60, j61, j62, j63, j64, j65, j66, j67, j68, j69, j70, j71, j72, j73, j74, j75, j76, j77, j78, j79, j80, j81, j82, j83, j84, j85, j86, j87, j88, j89, j90, j91, j92, j93, j94, j95, j96, j97, j98, j99, j100, j101, j102, j103, j104, j105, j106, j107, j108, j109, j110, j111, j112, j113, j114, j115, j116, j117, j118, j119, j120, j121, j122, j123, j124, j125, j126, j127, j128, j129, j130, j131, j132, j133, j134, j135, j136, j137, j138, j139, j140, j141, j142, j143, j144, j145, j146, j147, j148, j149, j150, j151, j152, j153, j154, j155, j156, j157, j158, j159, j160, j161, j162, j163, j164, j165, j166, j167, j168, j169, j170, j171, j172, j173, j174, j175, j176, j177, j178, j179, j180, j181, j182, j183, j184, j185, j186, j187, j188, j189, j190, j191] σ'') :
    wpC RR Tryz.prog c28_31 [v0, j1, p2, .slice so sn sc sz, .int .i64 k, .int .i64 sn, .int .u8 (x / 12 : Nat), .int .u8 (x % 12 : Nat), j8, j9, j10, j11, j12, j13, j14, j15, j16, j17, j18, j19, j20, j21, j22, j23, j24, j25, j26, j27, j28, j29, j30, j31, j32, j33, j34, j35, j36, j37, j38, j39, j40, j41, j42, j43, j44, j45, j46, j47, j48, j49, j50, j51, j52, j53, j54, j55, j56, j57, j58, j59, j60, j61, j62, j63, j64, j65, j66, j67, j68, j69, j70, j71, j72, j73, j74, j75, j76, j77, j78, j79, j80, j81, j82, j83, j84, j85, j86, j87, j88, j89, j90, j91, j92, j93, j94, j95, j96, j97, j98, j99, j100, j101, j102, j103, j104, j105, j106, j107, j108, j109, j110, j111, j112, j113, j114, j115, j116, j117, j118, j119, j120, j121, j122, j123, j124, j125, j126, j127, j128, j129, j130, j131, j132, j133, j134, j135, j136, j137, j138, j139, j140, j141, j142, j143, j144, j145, j146, j147, j148, j149, j150, j151, j152, j153, j154, j155, j156, j157, j158, j159, j160, j161, j162, j163, j164, j165, j166, j167, j168, j169, j170, j171, j172, j173, j174, j175, j176, j177, j178, j179, j180, j181, j182, j183, j184, j185, j186, j187, j188, j189, j190, j191] σ' Q := by
  have hb : bStep s x = s ++ [bAtom (if x / 12 % 3 = 0 then 80 else if x / 12 % 3 = 1 then 81 else 82) []] := by unfold bStep; rw [if_pos hr]
  have c1 : decide (((x % 12 : Nat) : Int) < 2) = true := decide_eq_true (by omega)
  have m3 : ((x / 12 : Nat) : Int).tmod 3 = ((x / 12 % 3 : Nat) : Int) := tmodN _ 3
  have z3 : ((3 : Int) = 0) = False := by simp
  have e3 : (0 : Int) ≤ ((x / 12 % 3 : Nat) : Int) ∧ ((x / 12 % 3 : Nat) : Int) < ((3 : Nat) : Int) := by omega
  have g3 : ([.str [80], .str [81], .str [82]] : List AV)[x / 12 % 3]? = some (.str [if x / 12 % 3 = 0 then 80 else if x / 12 % 3 = 1 then 81 else 82]) := by
    have : x / 12 % 3 = 0 ∨ x / 12 % 3 = 1 ∨ x / 12 % 3 = 2 := by omega
    rcases this with e | e | e <;> rw [e] <;> rfl
  simp -implicitDefEqProofs (maxDischargeDepth := 15) only [↓reduceIte, Yr, Ys, Yt, Yz, Wb, Wj, Wk, Wl, Wo, opA, Wv, Ww, Wx, Wy, Wz, Za, Zb, Zc, Zd, Ze, Vb, Vc, Vd, AV.cells, Vg, partA, Zf, Zg, Zh, Zi, Nat.reduceAdd, Nat.reduceLeDiff, Zj, Zk, Zm, Zn, Zo, Zp, Zs, binA, fillA, and_self, Yf, eq_self, c28_1, c28_2, c28_3, c28_4, c28_5, c28_6, c28_7, c28_8, c28_9, c28_10, c28_11, c28_12, c28_13, c28_14, c28_15, c28_16, c28_17, c28_18, c28_19, c28_20, c28_21, c28_22, c28_23, c28_24, c28_25, c28_26, c28_27, c28_28, c28_29, c28_30, c28_31, c1, m3, z3, e3, g3, Nat.mul_one]
  refine RunV.to (atom_ok _ _ _ _ _ _) ?_
  obtain ⟨i, es, he, hS4⟩ := (((hS.push (.cells [.str [80], .str [81], .str [82]] true)).push (.cells [.int .u8 1, .str [if x / 12 % 3 = 0 then 80 else if x / 12 % 3 = 1 then 81 else 82], nilA, nilA] true)).push (.cells [.int .u8 1, .str [if x / 12 % 3 = 0 then 80 else if x / 12 % 3 = 1 then 81 else 82], nilA, nilA] true)).append
    (f := bAtom (if x / 12 % 3 = 0 then 80 else if x / 12 % 3 = 1 then 81 else 82) []) (xs := [.int .u8 1, .str [if x / 12 % 3 = 0 then 80 else if x / 12 % 3 = 1 then 81 else 82], nilA, nilA]) (fdat (dat_nil _ 3) (dat_nil _ 4)) rfl (by omega)
  simp -implicitDefEqProofs (maxDischargeDepth := 15) only [↓reduceIte, Yr, Ys, Yt, Wu, opA, Wv, Wx, Wy, Wz, Za, Zb, Zd, Ze, Vb, Vc, Vd, AV.cells, Vg, Zf, Zg, Zh, Zi, Nat.reduceAdd, Zj, Zk, Zm, Zn, Zo, Zp, Zs, Zt, fillA, and_self, lenA, firstA, eq_self, he]
  rw [← hb] at hS4
  exact hQ _ _ _ _ _ _ _ _ _ _ _ _ _ _ _ _ _ _ _ _ _ _ _ _ _ _ _ _ _ _ _ _ _ _ _ _ _ _ _ _ _ _ _ _ _ _ _ _ _ _ _ _ _ _ _ _ _ _ _ _ _ _ _ _ _ _ _ _ _ _ _ _ _ _ _ _ _ _ _ _ _ _ _ _ _ _ _ _ _ _ _ _ _ _ _ _ _ _ _ _ _ _ _ _ _ _ _ _ _ _ _ _ _ _ _ _ _ _ _ _ _ _ _ _ _ _ _ _ _ _ _ _ _ _ _ _ _ _ _ _ _ _ _ _ _ _ _ _ _ _ _ _ _ _ _ _ _ _ _ _ _ _ _ _ _ _ _ _ _ _ _ _ _ _ _ _ _ _ _ _ _ _ _ _ _ _ _ _ _ _ _ _ _ _ hS4 (Nat.le_refl _)
theorem bsw2 {e : Nat} {σ1 σ' : AState} {v0 p2 : AV} {k : Nat} {so : Option (Nat × Nat)} {sn : Nat} {sc : Option Nat} {sz : Nat} {s : List F} {cs : List AV} (hS : Stk e σ1 σ' so sn sc sz s cs) (hsn : sn ≤ 20) {x : Nat} (hx : x < 256) (hr : 2 ≤ x % 12 ∧ x % 12 < 4) {j1 j8 j9 j10 j11 j12 j13 j14 j15 j16 j17 j18 j19 j20 j21 j22 j23 j24 j25 j26 j27 j28 j29 j30 j31 j32 j33 j34 j35 j36 j37 j38 j39 j40 j41 j42 j43 j44 j45 j46 j47 j48 j49 j50 j51 j52 j53 j54 j55 j56 j57 j58 j59 j60 j61 j62 j63 j64 j65 j66 j67 j68 j69 j70 j71 j72 j73 j74 j75 j76 j77 j78 j79 j80 j81 j82 j83 j84 j85 j86 j87 j88 j89 j90 j91 j92 j93 j94 j95 j96 j97 j98 j99 j100 j101 j102 j103 j104 j105 j106 j107 j108 j109 j110 j111 j112 j113 j114 j115 j116 j117 j118 j119 j120 j121 j122 j123 j124 j125 j126 j127 j128 j129 j130 j131 j132 j133 j134 j135 j136 j137 j138 j139 j140 j141 j142 j143 j144 j145 j146 j147 j148 j149 j150 j151 j152 j153 j154 j155 j156 j157 j158 j159 j160 j161 j162 j163 j164 j165 j166 j167 j168 j169 j170 j171 j172 j173 j174 j175 j176 j177 j178 j179 j180 j181 j182 j183 j184 j185 j186 j187 j188 j189 j190 j191 : AV} {Q : Ex → List AV → AState → Prop}
    (hQ : ∀ (σ'' : AState) (so' : Option (Nat × Nat)) (sn' : Nat) (sc' : Option Nat) (sz' : Nat) (cs' : List AV) (j1 j5 j6 j7 j8 j9 j10 j11 j12 j13 j14 j15 j16 j17 j18 j19 j20 j21 j22 j23 j24 j25 j26 j27 j28 j29 j30 j31 j32 j33 j34 j35 j36 j37 j38 j39 j40 j41 j42 j43 j44 j45 j46 j47 j48 j49 j50 j51 j52 j53 j54 j55 j56 j57 j58 j59 j60 j61 j62 j63 j64 j65 j66 j67 j68 j69 j70 j71 j72 j73 j74 j75 j76 j77 j78 j79 j80 j81 j82 j83 j84 j85 j86 j87 j88 j89 j90 j91 j92 j93 j94 j95 j96 j97 j98 j99 j100 j101 j102 j103 j104 j105 j106 j107 j108 j109 j110 j111 j112 j113 j114 j115 j116 j117 j118 j119 j120 j121 j122 j123 j124 j125 j126 j127 j128 j129 j130 j131 j132 j133 j134 j135 j136 j137 j138 j139 j140 j141 j142 j143 j144 j145 j146 j147 j148 j149 j150 j151 j152 j153 j154 j155 j156 j157 j158 j159 j160 j161 j162 j163 j164 j165 j166 j167 j168 j169 j170 j171 j172 j173 j174 j175 j176 j177 j178 j179 j180 j181 j182 j183 j184 j185 j186 j187 j188 j189 j190 j191 : AV), Stk e σ1 σ'' so' sn' sc' sz' (bStep s x) cs' → sn' ≤ sn + 1 → Q .normal [v0, j1, p2, .slice so' sn' sc' sz', .int .i64 k, j5, j6, j7, j8, j9, j10, j11, j12, j13, j14, j15, j16, j17, j18, j19, j20, j21, j22, j23, j24, j25, j26, j27, j28, j29, j30, j31, j32, j33, j34, j35, j36, j37, j38, j39, j40, j41, j42, j43, j44, j45, j46, j47, j48, j49, j50, j51, j52, j53, j54, j55, j56, j57, j58, j59, j60, j61, j62, j63, j64, j65, j66, j67, j68, j69, j70, j71, j72, j73, j74, j75, j76, j77, j78, j79, j80, j81, j82, j83, j84, j85, j86, j87, j88, j89, j90, j91, j92, j93, j94, j95, j96, j97, j98, j99, j100, j101, j102, j103, j104, j105, j106, j107, j108, j109, j110, j111, j112, j113, j114, j115, j116, j117, j118, j119, j120, j121, j122, j123, j124, j125, j126, j127, j128, j129, j130, j131, j132, j133, j134, j135, j136, j137, j138, j139, j140, j141, j142, j143, j144, j145, j146, j147, j148, j149, j150, j151, j152, j153, j154, j155, j156, j157, j158, j159, j160, j161, j162, j163, j164, j165, j166, j167, j168, j169, j170, j171, j172, j173, j174, j175, j176, j177, j178, j179, j180, j181, j182, j183, j184, j185, j186, j187, j188, j189, j190, j191] σ'') :
    wpC RR Tryz.prog c28_31 [v0, j1, p2, .slice so sn sc sz, .int .i64 k, .int .i64 sn, .int .u8 (x / 12 : Nat), .int .u8 (x % 12 : Nat), j8, j9, j10, j11, j12, j13, j14, j15, j16, j17, j18, j19, j20, j21, j22, j23, j24, j25, j26, j27, j28, j29, j30, j31, j32, j33, j34, j35, j36, j37, j38, j39, j40, j41, j42, j43, j44, j45, j46, j47, j48, j49, j50, j51, j52, j53, j54, j55, j56, j57, j58, j59, j60, j61, j62, j63, j64, j65, j66, j67, j68, j69, j70, j71, j72, j73, j74, j75, j76, j77, j78, j79, j80, j81, j82, j83, j84, j85, j86, j87, j88, j89, j90, j91, j92, j93, j94, j95, j96, j97, j98, j99, j100, j101, j102, j103, j104, j105, j106, j107, j108, j109, j110, j111, j112, j113, j114, j115, j116, j117, j118, j119, j120, j121, j122, j123, j124, j125, j126, j127, j128, j129, j130, j131, j132, j133, j134, j135, j136, j137, j138, j139, j140, j141, j142, j143, j144, j145, j146, j147, j148, j149, j150, j151, j152, j153, j154, j155, j156, j157, j158, j159, j160, j161, j162, j163, j164, j165, j166, j167, j168, j169, j170, j171, j172, j173, j174, j175, j176, j177, j178, j179, j180, j181, j182, j183, j184, j185, j186, j187, j188, j189, j190, j191] σ' Q := by
  have hb : bStep s x = s ++ [bAtom (if x % 12 % 2 = 0 then 80 else 81) [bTerm (x / 12)]] := by unfold bStep; rw [if_neg (by omega), if_pos hr.2]
  have c1 : decide (((x % 12 : Nat) : Int) < 2) = false := decide_eq_false (by omega)
  have c2 : decide (((x % 12 : Nat) : Int) < 4) = true := decide_eq_true (by omega)
  have m3 : ((x / 12 : Nat) : Int).tmod 3 = ((x / 12 % 3 : Nat) : Int) := tmodN _ 3
  have m2 : ((x % 12 : Nat) : Int).tmod 2 = ((x % 12 % 2 : Nat) : Int) := tmodN _ 2
  have d3 : wrapF .u8 (((x / 12 : Nat) : Int).tdiv 3) = ((x / 12 / 3 : Nat) : Int) := by rw [show (3 : Int) = ((3 : Nat) : Int) from rfl, tdivN, wrap_u8 (by omega)]
  have z3 : ((3 : Int) = 0) = False := by simp
  have z2 : ((2 : Int) = 0) = False := by simp
  have e3 : (0 : Int) ≤ ((x / 12 % 3 : Nat) : Int) ∧ ((x / 12 % 3 : Nat) : Int) < ((3 : Nat) : Int) := by omega
  have e2 : (0 : Int) ≤ ((x % 12 % 2 : Nat) : Int) ∧ ((x % 12 % 2 : Nat) : Int) < ((2 : Nat) : Int) := by omega
  have g2 : ([.str [80], .str [81]] : List AV)[x % 12 % 2]? = some (.str [if x % 12 % 2 = 0 then 80 else 81]) := by
    have : x % 12 % 2 = 0 ∨ x % 12 % 2 = 1 := by omega
    rcases this with e | e <;> rw [e] <;> rfl
  simp -implicitDefEqProofs (maxDischargeDepth := 15) only [↓reduceIte, Yr, Ys, Yt, Yz, Wa, Wb, Wj, Wk, Wl, Wo, opA, Wv, Ww, Wx, Wy, Wz, Za, Zb, Zc, Zd, Ze, Vb, Vc, Vd, AV.cells, Vg, partA, Zf, Zg, Zh, Zi, Nat.reduceAdd, Nat.reduceLeDiff, Zj, Zk, Zm, Zn, Zo, Zp, Zs, binA, fillA, and_self, Yf, eq_self, c28_1, c28_2, c28_3, c28_4, c28_5, c28_6, c28_7, c28_8, c28_9, c28_10, c28_11, c28_12, c28_13, c28_14, c28_15, c28_16, c28_17, c28_18, c28_19, c28_20, c28_21, c28_22, c28_23, c28_24, c28_25, c28_26, c28_27, c28_28, c28_29, c28_30, c28_31, c1, c2, m2, z2, e2, g2, Nat.mul_one]
  have hS1 := hS.push (.cells [.str [80], .str [81]] true)
  refine (bterm_ok (x / 12) (by omega) _).mono ?_
  rintro u σ2 ⟨xs, rfl, hd, hG⟩
  have hP := hG.sub _ _ (Vg (σ := σ') (b := .cells [.str [80], .str [81]] true))
  have hS2 := hS1.grow hG
  have hd2 := DAtL.sub (sub_newer (so := so) (fun i hi => hS1.lt i hi) hS1.el) _ _ hd
  have hxl : xs.length = 3 := by rw [hd.length, T.dv_len]
  obtain ⟨v, nm, ar, et⟩ := term_is (bTerm (x / 12))
  rw [et] at hd hd2
  obtain ⟨o1, q1, z1, rfl, _⟩ := T.cells hd
  simp -implicitDefEqProofs (maxDischargeDepth := 15) only [↓reduceIte, Ys, Yt, Wb, Wc, Wu, opA, Wv, Ww, Wx, Wy, Wz, Za, Zb, Zc, Zd, Ze, Vb, Vc, Vd, AV.cells, partA, Zf, Zg, Zh, Zi, Nat.reduceAdd, Nat.reduceLeDiff, Zj, Zk, Zm, Zn, Zo, Zp, Zs, fillA, and_self, true_and, againOk, eq_self, g2, hP]
  have hW2 := hS2.grown.wf
  generalize hσ3 : σ2.push (.cells [.bool v, .str nm, .slice o1 ar.length q1 z1] true) = σ3
  have hS3 : Stk e σ1 σ3 so sn sc sz s cs := by rw [← hσ3]; exact hS2.push _
  have hd3 : DAt (but e σ3 so) (.sl 3 1 (T.dvs [bTerm (x / 12)])) (.slice (some (σ2.next, 0)) 1 (some 1) 3) := by
    refine dat_sl (cs := [.bool v, .str nm, .slice o1 ar.length q1 z1]) (w := true) (some 1) (but_mk (fun q => by have := hS2.lt _ q; omega) (by rw [← hσ3, Vg]) (by have := hS2.el; omega)) rfl ?_
    show DAtL _ ((bTerm (x / 12)).dv ++ []) _
    rw [List.append_nil, et, ← hσ3]
    exact DAtL.sub (but_sub (sub_push hW2 _)) _ _ hd2
  refine RunV.to (atom_ok _ _ _ _ _ _) ?_
  obtain ⟨i, es, he, hS4⟩ := ((hS3.push (.cells [.int .u8 1, .str [if x % 12 % 2 = 0 then 80 else 81], .slice (some (σ2.next, 0)) 1 (some 1) 3, nilA] true)).push (.cells [.int .u8 1, .str [if x % 12 % 2 = 0 then 80 else 81], .slice (some (σ2.next, 0)) 1 (some 1) 3, nilA] true)).append
    (f := bAtom (if x % 12 % 2 = 0 then 80 else 81) [bTerm (x / 12)]) (xs := [.int .u8 1, .str [if x % 12 % 2 = 0 then 80 else 81], .slice (some (σ2.next, 0)) 1 (some 1) 3, nilA]) (fdat (DAt.sub (but_sub ((sub_push hS3.grown.wf _).trans (sub_push (hS3.grown.wf.push _) _))) _ _ hd3) (dat_nil _ 4)) rfl (by omega)
  simp -implicitDefEqProofs (maxDischargeDepth := 15) only [↓reduceIte, Yr, Ys, Yt, Wu, opA, Wv, Wx, Wy, Wz, Za, Zb, Zd, Ze, Vb, Vc, Vd, AV.cells, Vg, Zf, Zg, Zh, Zi, Nat.reduceAdd, Zj, Zk, Zm, Zn, Zo, Zp, Zs, Zt, fillA, and_self, lenA, firstA, eq_self, he]
  rw [← hb] at hS4
  exact hQ _ _ _ _ _ _ _ _ _ _ _ _ _ _ _ _ _ _ _ _ _ _ _ _ _ _ _ _ _ _ _ _ _ _ _ _ _ _ _ _ _ _ _ _ _ _ _ _ _ _ _ _ _ _ _ _ _ _ _ _ _ _ _ _ _ _ _ _ _ _ _ _ _ _ _ _ _ _ _ _ _ _ _ _ _ _ _ _ _ _ _ _ _ _ _ _ _ _ _ _ _ _ _ _ _ _ _ _ _ _ _ _ _ _ _ _ _ _ _ _ _ _ _ _ _ _ _ _ _ _ _ _ _ _ _ _ _ _ _ _ _ _ _ _ _ _ _ _ _ _ _ _ _ _ _ _ _ _ _ _ _ _ _ _ _ _ _ _ _ _ _ _ _ _ _ _ _ _ _ _ _ _ _ _ _ _ _ _ _ _ _ _ _ _ hS4 (Nat.le_refl _)
theorem bsw4 {e : Nat} {σ1 σ' : AState} {v0 p2 : AV} {k : Nat} {so : Option (Nat × Nat)} {sn : Nat} {sc : Option Nat} {sz : Nat} {s : List F} {cs : List AV} (hS : Stk e σ1 σ' so sn sc sz s cs) (hsn : sn ≤ 20) {x : Nat} (hx : x < 256) (hr : x % 12 = 5) {j1 j8 j9 j10 j11 j12 j13 j14 j15 j16 j17 j18 j19 j20 j21 j22 j23 j24 j25 j26 j27 j28 j29 j30 j31 j32 j33 j34 j35 j36 j37 j38 j39 j40 j41 j42 j43 j44 j45 j46 j47 j48 j49 j50 j51 j52 j53 j54 j55 j56 j57 j58 j59 j60 j61 j62 j63 j64 j65 j66 j67 j68 j69 j70 j71 j72 j73 j74 j75 j76 j77 j78 j79 j80 j81 j82 j83 j84 j85 j86 j87 j88 j89 j90 j91 j92 j93 j94 j95 j96 j97 j98 j99 j100 j101 j102 j103 j104 j105 j106 j107 j108 j109 j110 j111 j112 j113 j114 j115 j116 j117 j118 j119 j120 j121 j122 j123 j124 j125 j126 j127 j128 j129 j130 j131 j132 j133 j134 j135 j136 j137 j138 j139 j140 j141 j142 j143 j144 j145 j146 j147 j148 j149 j150 j151 j152 j153 j154 j155 j156 j157 j158 j159 j160 j161 j162 j163 j164 j165 j166 j167 j168 j169 j170 j171 j172 j173 j174 j175 j176 j177 j178 j179 j180 j181 j182 j183 j184 j185 j186 j187 j188 j189 j190 j191 : AV} {Q : Ex → List AV → AState → Prop}
    (hQ : ∀ (σ'' : AState) (so' : Option (Nat × Nat)) (sn' : Nat) (sc' : Option Nat) (sz' : Nat) (cs' : List AV) (j1 j5 j6 j7 j8 j9 j10 j11 j12 j13 j14 j15 j16 j17 j18 j19 j20 j21 j22 j23 j24 j25 j26 j27 j28 j29 j30 j31 j32 j33 j34 j35 j36 j37 j38 j39 j40 j41 j42 j43 j44 j45 j46 j47 j48 j49 j50 j51 j52 j53 j54 j55 j56 j57 j58 j59 j60 j61 j62 j63 j64 j65 j66 j67 j68 j69 j70 j71 j72 j73 j74 j75 j76 j77 j78 j79 j80 j81 j82 j83 j84 j85 j86 j87 j88 j89 j90 j91 j92 j93 j94 j95 j96 j97 j98 j99 j100 j101 j102 j103 j104 j105 j106 j107 j108 j109 j110 j111 j112 j113 j114 j115 j116 j117 j118 j119 j120 j121 j122 j123 j124 j125 j126 j127 j128 j129 j130 j131 j132 j133 j134 j135 j136 j137 j138 j139 j140 j141 j142 j143 j144 j145 j146 j147 j148 j149 j150 j151 j152 j153 j154 j155 j156 j157 j158 j159 j160 j161 j162 j163 j164 j165 j166 j167 j168 j169 j170 j171 j172 j173 j174 j175 j176 j177 j178 j179 j180 j181 j182 j183 j184 j185 j186 j187 j188 j189 j190 j191 : AV), Stk e σ1 σ'' so' sn' sc' sz' (bStep s x) cs' → sn' ≤ sn + 1 → Q .normal [v0, j1, p2, .slice so' sn' sc' sz', .int .i64 k, j5, j6, j7, j8, j9, j10, j11, j12, j13, j14, j15, j16, j17, j18, j19, j20, j21, j22, j23, j24, j25, j26, j27, j28, j29, j30, j31, j32, j33, j34, j35, j36, j37, j38, j39, j40, j41, j42, j43, j44, j45, j46, j47, j48, j49, j50, j51, j52, j53, j54, j55, j56, j57, j58, j59, j60, j61, j62, j63, j64, j65, j66, j67, j68, j69, j70, j71, j72, j73, j74, j75, j76, j77, j78, j79, j80, j81, j82, j83, j84, j85, j86, j87, j88, j89, j90, j91, j92, j93, j94, j95, j96, j97, j98, j99, j100, j101, j102, j103, j104, j105, j106, j107, j108, j109, j110, j111, j112, j113, j114, j115, j116, j117, j118, j119, j120, j121, j122, j123, j124, j125, j126, j127, j128, j129, j130, j131, j132, j133, j134, j135, j136, j137, j138, j139, j140, j141, j142, j143, j144, j145, j146, j147, j148, j149, j150, j151, j152, j153, j154, j155, j156, j157, j158, j159, j160, j161, j162, j163, j164, j165, j166, j167, j168, j169, j170, j171, j172, j173, j174, j175, j176, j177, j178, j179, j180, j181, j182, j183, j184, j185, j186, j187, j188, j189, j190, j191] σ'') :
    wpC RR Tryz.prog c28_31 [v0, j1, p2, .slice so sn sc sz, .int .i64 k, .int .i64 sn, .int .u8 (x / 12 : Nat), .int .u8 (x % 12 : Nat), j8, j9, j10, j11, j12, j13, j14, j15, j16, j17, j18, j19, j20, j21, j22, j23, j24, j25, j26, j27, j28, j29, j30, j31, j32, j33, j34, j35, j36, j37, j38, j39, j40, j41, j42, j43, j44, j45, j46, j47, j48, j49, j50, j51, j52, j53, j54, j55, j56, j57, j58, j59, j60, j61, j62, j63, j64, j65, j66, j67, j68, j69, j70, j71, j72, j73, j74, j75, j76, j77, j78, j79, j80, j81, j82, j83, j84, j85, j86, j87, j88, j89, j90, j91, j92, j93, j94, j95, j96, j97, j98, j99, j100, j101, j102, j103, j104, j105, j106, j107, j108, j109, j110, j111, j112, j113, j114, j115, j116, j117, j118, j119, j120, j121, j122, j123, j124, j125, j126, j127, j128, j129, j130, j131, j132, j133, j134, j135, j136, j137, j138, j139, j140, j141, j142, j143, j144, j145, j146, j147, j148, j149, j150, j151, j152, j153, j154, j155, j156, j157, j158, j159, j160, j161, j162, j163, j164, j165, j166, j167, j168, j169, j170, j171, j172, j173, j174, j175, j176, j177, j178, j179, j180, j181, j182, j183, j184, j185, j186, j187, j188, j189, j190, j191] σ' Q := by
  have hb : bStep s x = s ++ [.mk 2 [] [] []] := by unfold bStep; rw [if_neg (by omega), if_neg (by omega), if_neg (by omega), if_pos hr]
  have c1 : decide (((x % 12 : Nat) : Int) < 2) = false := decide_eq_false (by omega)
  have c2 : decide (((x % 12 : Nat) : Int) < 4) = false := decide_eq_false (by omega)
  have c3 : (((x % 12 : Nat) : Int) == 4) = false := by simp only [beq_eq_false_iff_ne]; omega
  have c4 : (((x % 12 : Nat) : Int) == 5) = true := by simp only [beq_iff_eq]; omega
  simp -implicitDefEqProofs (maxDischargeDepth := 15) only [↓reduceIte, Yr, Ys, Yt, Yz, Wa, Wb, Wj, Wk, Wl, Wo, opA, Wv, Ww, Wx, Wy, Wz, Za, Zb, Vb, Zh, Zi, binA, eq_self, c28_1, c28_2, c28_3, c28_4, c28_5, c28_6, c28_7, c28_8, c28_9, c28_10, c28_11, c28_12, c28_13, c28_14, c28_15, c28_16, c28_17, c28_18, c28_19, c28_20, c28_21, c28_22, c28_23, c28_24, c28_25, c28_26, c28_27, c28_28, c28_29, c28_30, c28_31, c1, c2, c3, c4]
  refine RunV.to (joinB_ok _ _ _ _ _ _) ?_
  obtain ⟨i, es, he, hS4⟩ := ((hS.push (.cells [.int .u8 2, .str [], nilA, nilA] true)).push (.cells [.int .u8 2, .str [], nilA, nilA] true)).append
    (f := .mk 2 [] [] []) (xs := [.int .u8 2, .str [], nilA, nilA]) (fdat (dat_nil _ 3) (dat_nil _ 4)) rfl (by omega)
  simp -implicitDefEqProofs (maxDischargeDepth := 15) only [↓reduceIte, Yr, Ys, Yt, Wu, opA, Wv, Wx, Wy, Wz, Za, Zb, Zd, Ze, Vb, Vc, Vd, AV.cells, Vg, Zf, Zg, Zh, Zi, Nat.reduceAdd, Zj, Zk, Zm, Zn, Zo, Zp, Zs, Zt, fillA, and_self, lenA, firstA, eq_self, he]
  rw [← hb] at hS4
  exact hQ _ _ _ _ _ _ _ _ _ _ _ _ _ _ _ _ _ _ _ _ _ _ _ _ _ _ _ _ _ _ _ _ _ _ _ _ _ _ _ _ _ _ _ _ _ _ _ _ _ _ _ _ _ _ _ _ _ _ _ _ _ _ _ _ _ _ _ _ _ _ _ _ _ _ _ _ _ _ _ _ _ _ _ _ _ _ _ _ _ _ _ _ _ _ _ _ _ _ _ _ _ _ _ _ _ _ _ _ _ _ _ _ _ _ _ _ _ _ _ _ _ _ _ _ _ _ _ _ _ _ _ _ _ _ _ _ _ _ _ _ _ _ _ _ _ _ _ _ _ _ _ _ _ _ _ _ _ _ _ _ _ _ _ _ _ _ _ _ _ _ _ _ _ _ _ _ _ _ _ _ _ _ _ _ _ _ _ _ _ _ _ _ _ _ hS4 (Nat.le_refl _)
end Go.Am
namespace Go.Am
open Go.RowKit Go.Proofs Do
set_option maxRecDepth 100000
theorem bsw3 {e : Nat} {σ1 σ' : AState} {v0 p2 : AV} {k : Nat} {so : Option (Nat × Nat)} {sn : Nat} {sc : Option Nat} {sz : Nat} {s : List F} {cs : List AV} (hS : Stk e σ1 σ' so sn sc sz s cs) (hsn : sn ≤ 20) {x : Nat} (hx : x < 256) (hr : x % 12 = 4) {j1 j8 j9 j10 j11 j12 j13 j14 j15 j16 j17 j18 j19 j20 j21 j22 j23 j24 j25 j26 j27 j28 j29 j30 j31 j32 j33 j34 j35 j36 j37 j38 j39 j40 j41 j42 j43 j44 j45 j46 j47 j48 j49 j50 j51 j52 j53 j54 j55 j56 j57 j58 j59 j60 j61 j62 j63 j64 j65 j66 j67 j68 j69 j70 j71 j72 j73 j74 j75 j76 j77 j78 j79 j80 j81 j82 j83 j84 j85 j86 j87 j88 j89 j90 j91 j92 j93 j94 j95 j96 j97 j98 j99 j100 j101 j102 j103 j104 j105 j106 j107 j108 j109 j110 j111 j112 j113 j114 j115 j116 j117 j118 j119 j120 j121 j122 j123 j124 j125 j126 j127 j128 j129 j130 j131 j132 j133 j134 j135 j136 j137 j138 j139 j140 j141 j142 j143 j144 j145 j146 j147 j148 j149 j150 j151 j152 j153 j154 j155 j156 j157 j158 j159 j160 j161 j162 j163 j164 j165 j166 j167 j168 j169 j170 j171 j172 j173 j174 j175 j176 j177 j178 j179 j180 j181 j182 j183 j184 j185 j186 j187 j188 j189 j190 j191 : AV} {Q : Ex → List AV → AState → Prop}
    (hQ : ∀ (σ'' : AState) (so' : Option (Nat × Nat)) (sn' : Nat) (sc' : Option Nat) (sz' : Nat) (cs' : List AV) (j1 j5 j6 j7 j8 j9 j10 j11 j12 j13 j14 j15 j16 j17 j18 j19 j20 j21 j22 j23 j24 j25 j26 j27 j28 j29 j30 j31 j32 j33 j34 j35 j36 j37 j38 j39 j40 j41 j42 j43 j44 j45 j46 j47 j48 j49 j50 j51 j52 j53 j54 j55 j56 j57 j58 j59 j60 j61 j62 j63 j64 j65 j66 j67 j68 j69 j70 j71 j72 j73 j74 j75 j76 j77 j78 j79 j80 j81 j82 j83 j84 j85 j86 j87 j88 j89 j90 j91 j92 j93 j94 j95 j96 j97 j98 j99 j100 j101 j102 j103 j104 j105 j106 j107 j108 j109 j110 j111 j112 j113 j114 j115 j116 j117 j118 j119 j120 j121 j122 j123 j124 j125 j126 j127 j128 j129 j130 j131 j132 j133 j134 j135 j136 j137 j138 j139 j140 j141 j142 j143 j144 j145 j146 j147 j148 j149 j150 j151 j152 j153 j154 j155 j156 j157 j158 j159 j160 j161 j162 j163 j164 j165 j166 j167 j168 j169 j170 j171 j172 j173 j174 j175 j176 j177 j178 j179 j180 j181 j182 j183 j184 j185 j186 j187 j188 j189 j190 j191 : AV), Stk e σ1 σ'' so' sn' sc' sz' (bStep s x) cs' → sn' ≤ sn + 1 → Q .normal [v0, j1, p2, .slice so' sn' sc' sz', .int .i64 k, j5, j6, j7, j8, j9, j10, j11, j12, j13, j14, j15, j16, j17, j18, j19, j20, j21, j22, j23, j24, j25, j26, j27, j28, j29, j30, j31, j32, j33, j34, j35, j36, j37, j38, j39, j40, j41, j42, j43, j44, j45, j46, j47, j48, j49, j50, j51, j52, j53, j54, j55, j56, j57, j58, j59, j60, j61, j62, j63, j64, j65, j66, j67, j68, j69, j70, j71, j72, j73, j74, j75, j76, j77, j78, j79, j80, j81, j82, j83, j84, j85, j86, j87, j88, j89, j90, j91, j92, j93, j94, j95, j96, j97, j98, j99, j100, j101, j102, j103, j104, j105, j106, j107, j108, j109, j110, j111, j112, j113, j114, j115, j116, j117, j118, j119, j120, j121, j122, j123, j124, j125, j126, j127, j128, j129, j130, j131, j132, j133, j134, j135, j136, j137, j138, j139, j140, j141, j142, j143, j144, j145, j146, j147, j148, j149, j150, j151, j152, j153, j154, j155, j156, j157, j158, j159, j160, j161, j162, j163, j164, j165, j166, j167, j168, j169, j170, j171, j172, j173, j174, j175, j176, j177, j178, j179, j180, j181, j182, j183, j184, j185, j186, j187, j188, j189, j190, j191] σ'') :
    wpC RR Tryz.prog c28_31 [v0, j1, p2, .slice so sn sc sz, .int .i64 k, .int .i64 sn, .int .u8 (x / 12 : Nat), .int .u8 (x % 12 : Nat), j8, j9, j10, j11, j12, j13, j14, j15, j16, j17, j18, j19, j20, j21, j22, j23, j24, j25, j26, j27, j28, j29, j30, j31, j32, j33, j34, j35, j36, j37, j38, j39, j40, j41, j42, j43, j44, j45, j46, j47, j48, j49, j50, j51, j52, j53, j54, j55, j56, j57, j58, j59, j60, j61, j62, j63, j64, j65, j66, j67, j68, j69, j70, j71, j72, j73, j74, j75, j76, j77, j78, j79, j80, j81, j82, j83, j84, j85, j86, j87, j88, j89, j90, j91, j92, j93, j94, j95, j96, j97, j98, j99, j100, j101, j102, j103, j104, j105, j106, j107, j108, j109, j110, j111, j112, j113, j114, j115, j116, j117, j118, j119, j120, j121, j122, j123, j124, j125, j126, j127, j128, j129, j130, j131, j132, j133, j134, j135, j136, j137, j138, j139, j140, j141, j142, j143, j144, j145, j146, j147, j148, j149, j150, j151, j152, j153, j154, j155, j156, j157, j158, j159, j160, j161, j162, j163, j164, j165, j166, j167, j168, j169, j170, j171, j172, j173, j174, j175, j176, j177, j178, j179, j180, j181, j182, j183, j184, j185, j186, j187, j188, j189, j190, j191] σ' Q := by
  have hb : bStep s x = s ++ [bAtom 82 [bTerm (x / 12), bTerm (x / 12 / 3)]] := by unfold bStep; rw [if_neg (by omega), if_neg (by omega), if_pos hr]
  have c1 : decide (((x % 12 : Nat) : Int) < 2) = false := decide_eq_false (by omega)
  have c2 : decide (((x % 12 : Nat) : Int) < 4) = false := decide_eq_false (by omega)
  have c3 : (((x % 12 : Nat) : Int) == 4) = true := by simp only [beq_iff_eq]; omega
  have d3 : wrapF .u8 (((x / 12 : Nat) : Int).tdiv 3) = ((x / 12 / 3 : Nat) : Int) := by rw [show (3 : Int) = ((3 : Nat) : Int) from rfl, tdivN, wrap_u8 (by omega)]
  have z3 : ((3 : Int) = 0) = False := by simp
  simp -implicitDefEqProofs (maxDischargeDepth := 15) only [↓reduceIte, Yr, Ys, Yt, Yz, Wa, Wb, Wj, Wk, Wl, Wo, opA, Wv, Ww, Wx, Wy, Wz, Za, Zb, Vb, Zh, Zi, binA, eq_self, c28_1, c28_2, c28_3, c28_4, c28_5, c28_6, c28_7, c28_8, c28_9, c28_10, c28_11, c28_12, c28_13, c28_14, c28_15, c28_16, c28_17, c28_18, c28_19, c28_20, c28_21, c28_22, c28_23, c28_24, c28_25, c28_26, c28_27, c28_28, c28_29, c28_30, c28_31, c1, c2, c3]
  refine (bterm_ok (x / 12) (by omega) _).mono ?_
  rintro u σ2 ⟨xs, rfl, hd, hG⟩
  have hS2 := hS.grow hG
  have hd2 := DAtL.sub (sub_newer (so := so) (fun i hi => hS.lt i hi) hS.el) _ _ hd
  have hxl : xs.length = 3 := by rw [hd.length, T.dv_len]
  obtain ⟨v, nm, ar, et⟩ := term_is (bTerm (x / 12))
  rw [et] at hd hd2
  obtain ⟨o1, q1, z1, rfl, _⟩ := T.cells hd
  simp -implicitDefEqProofs (maxDischargeDepth := 15) only [↓reduceIte, Ys, Yt, Wb, Wu, opA, Wv, Ww, Wx, Wy, Wz, Za, Zb, Vb, Zh, Zi, binA, eq_self, d3, z3]
  refine (bterm_ok (x / 12 / 3) (by omega) _).mono ?_
  rintro u σ3 ⟨ys, rfl, hd', hG3⟩
  have hS3 := hS2.grow hG3
  have hd2' := DAtL.sub (sub_newer (so := so) (fun i hi => hS2.lt i hi) hS2.el) _ _ hd'
  obtain ⟨v', nm', ar', et'⟩ := term_is (bTerm (x / 12 / 3))
  rw [et'] at hd' hd2'
  obtain ⟨o1', q1', z1', rfl, _⟩ := T.cells hd'
  have hd23 := DAtL.sub (but_sub (so := so) hG3.sub) _ _ hd2
  simp -implicitDefEqProofs (maxDischargeDepth := 15) only [↓reduceIte, Ys, Yt, Wb, Wu, opA, Wv, Ww, Wx, Wy, Wz, Za, Zb, Zc, Zd, Ze, Vb, Vc, Vd, AV.cells, Zf, Zg, Zh, Zi, Nat.reduceAdd, Nat.reduceLeDiff, Zj, Zk, Zm, Zn, Zo, Zp, Zs, fillA, and_self, eq_self]
  have hW3 := hS3.grown.wf
  generalize hσ4 : σ3.push (.cells [.bool v, .str nm, .slice o1 ar.length q1 z1, .bool v', .str nm', .slice o1' ar'.length q1' z1'] true) = σ4
  have hS4 : Stk e σ1 σ4 so sn sc sz s cs := by rw [← hσ4]; exact hS3.push _
  have hd4 : DAt (but e σ4 so) (.sl 3 2 (T.dvs [bTerm (x / 12), bTerm (x / 12 / 3)])) (.slice (some (σ3.next, 0)) 2 (some 2) 3) := by
    refine dat_sl (cs := [.bool v, .str nm, .slice o1 ar.length q1 z1] ++ [.bool v', .str nm', .slice o1' ar'.length q1' z1']) (w := true) (some 2) (but_mk (fun q => by have := hS3.lt _ q; omega) (by rw [← hσ4, Vg]; rfl) (by have := hS3.el; omega)) rfl ?_
    show DAtL _ ((bTerm (x / 12)).dv ++ ((bTerm (x / 12 / 3)).dv ++ [])) _
    rw [List.append_nil, et, et', ← hσ4]
    exact DAtL.append_iff.2 ⟨_, _, rfl, DAtL.sub (but_sub (sub_push hW3 _)) _ _ hd23, DAtL.sub (but_sub (sub_push hW3 _)) _ _ hd2'⟩
  refine RunV.to (atom_ok _ _ _ _ _ _) ?_
  obtain ⟨i, es, he, hS5⟩ := ((hS4.push (.cells [.int .u8 1, .str [82], .slice (some (σ3.next, 0)) 2 (some 2) 3, nilA] true)).push (.cells [.int .u8 1, .str [82], .slice (some (σ3.next, 0)) 2 (some 2) 3, nilA] true)).append
    (f := bAtom 82 [bTerm (x / 12), bTerm (x / 12 / 3)]) (xs := [.int .u8 1, .str [82], .slice (some (σ3.next, 0)) 2 (some 2) 3, nilA]) (fdat (DAt.sub (but_sub ((sub_push hS4.grown.wf _).trans (sub_push (hS4.grown.wf.push _) _))) _ _ hd4) (dat_nil _ 4)) rfl (by omega)
  simp -implicitDefEqProofs (maxDischargeDepth := 15) only [↓reduceIte, Yr, Ys, Yt, Wu, opA, Wv, Wx, Wy, Wz, Za, Zb, Zd, Ze, Vb, Vc, Vd, AV.cells, Vg, Zf, Zg, Zh, Zi, Nat.reduceAdd, Zj, Zk, Zm, Zn, Zo, Zp, Zs, Zt, fillA, and_self, lenA, firstA, eq_self, he]
  rw [← hb] at hS5
  exact hQ _ _ _ _ _ _ _ _ _ _ _ _ _ _ _ _ _ _ _ _ _ _ _ _ _ _ _ _ _ _ _ _ _ _ _ _ _ _ _ _ _ _ _ _ _ _ _ _ _ _ _ _ _ _ _ _ _ _ _ _ _ _ _ _ _ _ _ _ _ _ _ _ _ _ _ _ _ _ _ _ _ _ _ _ _ _ _ _ _ _ _ _ _ _ _ _ _ _ _ _ _ _ _ _ _ _ _ _ _ _ _ _ _ _ _ _ _ _ _ _ _ _ _ _ _ _ _ _ _ _ _ _ _ _ _ _ _ _ _ _ _ _ _ _ _ _ _ _ _ _ _ _ _ _ _ _ _ _ _ _ _ _ _ _ _ _ _ _ _ _ _ _ _ _ _ _ _ _ _ _ _ _ _ _ _ _ _ _ _ _ _ _ _ _ hS5 (Nat.le_refl _)
theorem bsw5 {e : Nat} {σ1 σ' : AState} {v0 p2 : AV} {k : Nat} {so : Option (Nat × Nat)} {sn : Nat} {sc : Option Nat} {sz : Nat} {s : List F} {cs : List AV} (hS : Stk e σ1 σ' so sn sc sz s cs) (hsn : sn ≤ 20) {x : Nat} (hx : x < 256) (hr : x % 12 = 6 ∧ 1 ≤ sn) {j1 j8 j9 j10 j11 j12 j13 j14 j15 j16 j17 j18 j19 j20 j21 j22 j23 j24 j25 j26 j27 j28 j29 j30 j31 j32 j33 j34 j35 j36 j37 j38 j39 j40 j41 j42 j43 j44 j45 j46 j47 j48 j49 j50 j51 j52 j53 j54 j55 j56 j57 j58 j59 j60 j61 j62 j63 j64 j65 j66 j67 j68 j69 j70 j71 j72 j73 j74 j75 j76 j77 j78 j79 j80 j81 j82 j83 j84 j85 j86 j87 j88 j89 j90 j91 j92 j93 j94 j95 j96 j97 j98 j99 j100 j101 j102 j103 j104 j105 j106 j107 j108 j109 j110 j111 j112 j113 j114 j115 j116 j117 j118 j119 j120 j121 j122 j123 j124 j125 j126 j127 j128 j129 j130 j131 j132 j133 j134 j135 j136 j137 j138 j139 j140 j141 j142 j143 j144 j145 j146 j147 j148 j149 j150 j151 j152 j153 j154 j155 j156 j157 j158 j159 j160 j161 j162 j163 j164 j165 j166 j167 j168 j169 j170 j171 j172 j173 j174 j175 j176 j177 j178 j179 j180 j181 j182 j183 j184 j185 j186 j187 j188 j189 j190 j191 : AV} {Q : Ex → List AV → AState → Prop}
    (hQ : ∀ (σ'' : AState) (so' : Option (Nat × Nat)) (sn' : Nat) (sc' : Option Nat) (sz' : Nat) (cs' : List AV) (j1 j5 j6 j7 j8 j9 j10 j11 j12 j13 j14 j15 j16 j17 j18 j19 j20 j21 j22 j23 j24 j25 j26 j27 j28 j29 j30 j31 j32 j33 j34 j35 j36 j37 j38 j39 j40 j41 j42 j43 j44 j45 j46 j47 j48 j49 j50 j51 j52 j53 j54 j55 j56 j57 j58 j59 j60 j61 j62 j63 j64 j65 j66 j67 j68 j69 j70 j71 j72 j73 j74 j75 j76 j77 j78 j79 j80 j81 j82 j83 j84 j85 j86 j87 j88 j89 j90 j91 j92 j93 j94 j95 j96 j97 j98 j99 j100 j101 j102 j103 j104 j105 j106 j107 j108 j109 j110 j111 j112 j113 j114 j115 j116 j117 j118 j119 j120 j121 j122 j123 j124 j125 j126 j127 j128 j129 j130 j131 j132 j133 j134 j135 j136 j137 j138 j139 j140 j141 j142 j143 j144 j145 j146 j147 j148 j149 j150 j151 j152 j153 j154 j155 j156 j157 j158 j159 j160 j161 j162 j163 j164 j165 j166 j167 j168 j169 j170 j171 j172 j173 j174 j175 j176 j177 j178 j179 j180 j181 j182 j183 j184 j185 j186 j187 j188 j189 j190 j191 : AV), Stk e σ1 σ'' so' sn' sc' sz' (bStep s x) cs' → sn' ≤ sn + 1 → Q .normal [v0, j1, p2, .slice so' sn' sc' sz', .int .i64 k, j5, j6, j7, j8, j9, j10, j11, j12, j13, j14, j15, j16, j17, j18, j19, j20, j21, j22, j23, j24, j25, j26, j27, j28, j29, j30, j31, j32, j33, j34, j35, j36, j37, j38, j39, j40, j41, j42, j43, j44, j45, j46, j47, j48, j49, j50, j51, j52, j53, j54, j55, j56, j57, j58, j59, j60, j61, j62, j63, j64, j65, j66, j67, j68, j69, j70, j71, j72, j73, j74, j75, j76, j77, j78, j79, j80, j81, j82, j83, j84, j85, j86, j87, j88, j89, j90, j91, j92, j93, j94, j95, j96, j97, j98, j99, j100, j101, j102, j103, j104, j105, j106, j107, j108, j109, j110, j111, j112, j113, j114, j115, j116, j117, j118, j119, j120, j121, j122, j123, j124, j125, j126, j127, j128, j129, j130, j131, j132, j133, j134, j135, j136, j137, j138, j139, j140, j141, j142, j143, j144, j145, j146, j147, j148, j149, j150, j151, j152, j153, j154, j155, j156, j157, j158, j159, j160, j161, j162, j163, j164, j165, j166, j167, j168, j169, j170, j171, j172, j173, j174, j175, j176, j177, j178, j179, j180, j181, j182, j183, j184, j185, j186, j187, j188, j189, j190, j191] σ'') :
    wpC RR Tryz.prog c28_31 [v0, j1, p2, .slice so sn sc sz, .int .i64 k, .int .i64 sn, .int .u8 (x / 12 : Nat), .int .u8 (x % 12 : Nat), j8, j9, j10, j11, j12, j13, j14, j15, j16, j17, j18, j19, j20, j21, j22, j23, j24, j25, j26, j27, j28, j29, j30, j31, j32, j33, j34, j35, j36, j37, j38, j39, j40, j41, j42, j43, j44, j45, j46, j47, j48, j49, j50, j51, j52, j53, j54, j55, j56, j57, j58, j59, j60, j61, j62, j63, j64, j65, j66, j67, j68, j69, j70, j71, j72, j73, j74, j75, j76, j77, j78, j79, j80, j81, j82, j83, j84, j85, j86, j87, j88, j89, j90, j91, j92, j93, j94, j95, j96, j97, j98, j99, j100, j101, j102, j103, j104, j105, j106, j107, j108, j109, j110, j111, j112, j113, j114, j115, j116, j117, j118, j119, j120, j121, j122, j123, j124, j125, j126, j127, j128, j129, j130, j131, j132, j133, j134, j135, j136, j137, j138, j139, j140, j141, j142, j143, j144, j145, j146, j147, j148, j149, j150, j151, j152, j153, j154, j155, j156, j157, j158, j159, j160, j161, j162, j163, j164, j165, j166, j167, j168, j169, j170, j171, j172, j173, j174, j175, j176, j177, j178, j179, j180, j181, j182, j183, j184, j185, j186, j187, j188, j189, j190, j191] σ' Q := by
  have hlen := hS.len
  have hcase : sc = none ∧ sz = 4 ∧ ∃ i, so = some (i, 0) ∧ σ'.get i = some (.cells cs true) := by
    rcases hS.grown.at' with ⟨_, q⟩ | ⟨q1, q2, i, q3, _, q4⟩
    · omega
    · exact ⟨q1, q2, i, q3, q4⟩
  obtain ⟨rfl, rfl, i, rfl, hgi⟩ := hcase
  have hil := hS.lt i rfl
  have hcl := hS.grown.len
  obtain ⟨f, hf⟩ : ∃ f, s[sn - 1]? = some f := ⟨s[sn - 1]'(by omega), List.getElem?_eq_getElem _⟩
  have hdrop : s.drop (s.length - 1) = [f] := by
    rw [hlen]
    refine List.ext_getElem? fun j => ?_
    rw [List.getElem?_drop]
    cases j with
    | zero => simpa using hf
    | succ j => rw [List.getElem?_eq_none (by omega)]; simp
  have hb : bStep s x = s.take (sn - 1) ++ [.mk (if x / 12 % 3 = 0 then 3 else if x / 12 % 3 = 1 then 10 else 12) [] [] [f]] := by
    unfold bStep; rw [if_neg (by omega), if_neg (by omega), if_neg (by omega), if_neg (by omega), if_pos ⟨hr.1, by omega⟩, hdrop, hlen]
  obtain ⟨_, i', xs, e', _, hl4, hxs, hd⟩ := hS.elem hf
  cases e'
  obtain ⟨fo, fn, fa, fl, ef⟩ := form_is f
  subst ef
  have hd0 := hd
  obtain ⟨o1, q1, z1, o2, q2, z2, rfl, _, _⟩ := F.cells hd
  have c1 : decide (((x % 12 : Nat) : Int) < 2) = false := decide_eq_false (by omega)
  have c2 : decide (((x % 12 : Nat) : Int) < 4) = false := decide_eq_false (by omega)
  have c3 : (((x % 12 : Nat) : Int) == 4) = false := by simp only [beq_eq_false_iff_ne]; omega
  have c4 : (((x % 12 : Nat) : Int) == 5) = false := by simp only [beq_eq_false_iff_ne]; omega
  have c5 : (((x % 12 : Nat) : Int) == 6) = true := by simp only [beq_iff_eq]; omega
  have c6 : decide ((sn : Int) ≥ 1) = true := decide_eq_true (by omega)
  have w1 : wrapF .i64 ((sn : Int) - 1) = ((sn - 1 : Nat) : Int) := by rw [wrap_i64 (by omega)]; omega
  have l1 : sn - 1 ≤ sn := by omega
  have m3 : ((x / 12 : Nat) : Int).tmod 3 = ((x / 12 % 3 : Nat) : Int) := tmodN _ 3
  have z3 : ((3 : Int) = 0) = False := by simp
  have e3 : (0 : Int) ≤ ((x / 12 % 3 : Nat) : Int) ∧ ((x / 12 % 3 : Nat) : Int) < ((3 : Nat) : Int) := by omega
  have e4 : (0 : Int) ≤ ((sn - 1 : Nat) : Int) ∧ ((sn - 1 : Nat) : Int) < (sn : Int) := by omega
  have g3 : ([.int .u8 3, .int .u8 10, .int .u8 12] : List AV)[x / 12 % 3]? = some (.int .u8 ((if x / 12 % 3 = 0 then 3 else if x / 12 % 3 = 1 then 10 else 12 : Nat) : Int)) := by
    have : x / 12 % 3 = 0 ∨ x / 12 % 3 = 1 ∨ x / 12 % 3 = 2 := by omega
    rcases this with e | e | e <;> rw [e] <;> rfl
  generalize (if x / 12 % 3 = 0 then 3 else if x / 12 % 3 = 1 then 10 else 12 : Nat) = op at *
  simp -implicitDefEqProofs (maxDischargeDepth := 15) only [↓reduceIte, Yr, Ys, Yt, Yv, Yz, Wa, Wb, Wd, Wj, Wk, Wl, Wo, opA, Wv, Ww, Wx, Wy, Wz, Za, Zb, Zc, Zd, Ze, Vb, Vc, Vd, AV.cells, Vg, Vh, partA, Zf, Zg, Zh, Zi, Nat.reduceAdd, Nat.reduceLeDiff, Zj, Zk, Zl, Zm, Zn, Zo, Zp, Zs, binA, fillA, and_self, Zz, reduceCtorEq, Yf, natOf, upTo, bMax, bHigh, bLow, boundsA, evO, Yh, Yi, Vu, Vv, Yj, eq_self, Yl, or_true, c28_1, c28_2, c28_3, c28_4, c28_5, c28_6, c28_7, c28_8, c28_9, c28_10, c28_11, c28_12, c28_13, c28_14, c28_15, c28_16, c28_17, c28_18, c28_19, c28_20, c28_21, c28_22, c28_23, c28_24, c28_25, c28_26, c28_27, c28_28, c28_29, c28_30, c28_31, c1, c2, c3, c4, c5, c6, w1, l1, m3, z3, e3, e4, g3, Nat.mul_one, Nat.sub_zero, hgi, hil, hl4, hxs]
  refine RunV.to (joinB_ok _ _ _ _ _ _) ?_
  have hS2 := (hS.push (.cells [.int .u8 3, .int .u8 10, .int .u8 12] true))
  have hW2 := hS2.grown.wf
  have hd3 : DAt (but e ((σ'.push (.cells [.int .u8 3, .int .u8 10, .int .u8 12] true)).push (.cells [.int .u8 fo, .str fn, .slice o1 fa.length q1 z1, .slice o2 fl.length q2 z2] true)) (some (i, 0))) (.sl 4 1 (F.dvs [F.mk fo fn fa fl])) (.slice (some ((σ'.push (.cells [.int .u8 3, .int .u8 10, .int .u8 12] true)).next, 0)) 1 (some 1) 4) := by
    refine dat_sl (cs := [.int .u8 fo, .str fn, .slice o1 fa.length q1 z1, .slice o2 fl.length q2 z2]) (w := true) (some 1) (but_mk (fun q => by have := hS2.lt _ q; omega) Vg (by have := hS2.el; omega)) rfl ?_
    rw [dvs_one]
    exact DAtL.sub (but_sub ((sub_push hS.grown.wf _).trans (sub_push hW2 _))) _ _ hd0
  have hS3 := hS2.push (.cells [.int .u8 fo, .str fn, .slice o1 fa.length q1 z1, .slice o2 fl.length q2 z2] true)
  have hW3 := hS3.grown.wf
  have hS5 := (hS3.push (.cells [.int .u8 op, .str [], nilA, .slice (some ((σ'.push (.cells [.int .u8 3, .int .u8 10, .int .u8 12] true)).next, 0)) 1 (some 1) 4] true)).push (.cells [.int .u8 op, .str [], nilA, .slice (some ((σ'.push (.cells [.int .u8 3, .int .u8 10, .int .u8 12] true)).next, 0)) 1 (some 1) 4] true)
  obtain ⟨he, hS6⟩ := hS5.appendTake (k := sn - 1) rfl (by omega) (f := .mk op [] [] [F.mk fo fn fa fl]) (xs := [.int .u8 op, .str [], nilA, .slice (some ((σ'.push (.cells [.int .u8 3, .int .u8 10, .int .u8 12] true)).next, 0)) 1 (some 1) 4])
    (fdat (dat_nil _ 3) (DAt.sub (but_sub ((sub_push hW3 _).trans (sub_push (hW3.push _) _))) _ _ hd3)) (by omega)
  simp -implicitDefEqProofs (maxDischargeDepth := 15) only [↓reduceIte, Yr, Ys, Yt, Wu, opA, Wv, Wx, Wy, Wz, Za, Zb, Zd, Ze, Vb, Vc, Vd, AV.cells, Vg, Zf, Zg, Zh, Zi, Nat.reduceAdd, Zj, Zk, Zm, Zn, Zo, Zp, Zs, Zt, fillA, and_self, lenA, firstA, eq_self, he]
  rw [← hb] at hS6
  exact hQ _ _ _ _ _ _ _ _ _ _ _ _ _ _ _ _ _ _ _ _ _ _ _ _ _ _ _ _ _ _ _ _ _ _ _ _ _ _ _ _ _ _ _ _ _ _ _ _ _ _ _ _ _ _ _ _ _ _ _ _ _ _ _ _ _ _ _ _ _ _ _ _ _ _ _ _ _ _ _ _ _ _ _ _ _ _ _ _ _ _ _ _ _ _ _ _ _ _ _ _ _ _ _ _ _ _ _ _ _ _ _ _ _ _ _ _ _ _ _ _ _ _ _ _ _ _ _ _ _ _ _ _ _ _ _ _ _ _ _ _ _ _ _ _ _ _ _ _ _ _ _ _ _ _ _ _ _ _ _ _ _ _ _ _ _ _ _ _ _ _ _ _ _ _ _ _ _ _ _ _ _ _ _ _ _ _ _ _ _ _ _ _ _ _ hS6 (by omega)
end Go.Am
namespace Go.Am
open Go.RowKit Go.Proofs Do
set_option maxRecDepth 100000
theorem bsw6 {e : Nat} {σ1 σ' : AState} {v0 p2 : AV} {k : Nat} {so : Option (Nat × Nat)} {sn : Nat} {sc : Option Nat} {sz : Nat} {s : List F} {cs : List AV} (hS : Stk e σ1 σ' so sn sc sz s cs) (hsn : sn ≤ 20) {x : Nat} (hx : x < 256) (hr : 7 ≤ x % 12 ∧ x % 12 < 10 ∧ 2 ≤ sn) {j1 j8 j9 j10 j11 j12 j13 j14 j15 j16 j17 j18 j19 j20 j21 j22 j23 j24 j25 j26 j27 j28 j29 j30 j31 j32 j33 j34 j35 j36 j37 j38 j39 j40 j41 j42 j43 j44 j45 j46 j47 j48 j49 j50 j51 j52 j53 j54 j55 j56 j57 j58 j59 j60 j61 j62 j63 j64 j65 j66 j67 j68 j69 j70 j71 j72 j73 j74 j75 j76 j77 j78 j79 j80 j81 j82 j83 j84 j85 j86 j87 j88 j89 j90 j91 j92 j93 j94 j95 j96 j97 j98 j99 j100 j101 j102 j103 j104 j105 j106 j107 j108 j109 j110 j111 j112 j113 j114 j115 j116 j117 j118 j119 j120 j121 j122 j123 j124 j125 j126 j127 j128 j129 j130 j131 j132 j133 j134 j135 j136 j137 j138 j139 j140 j141 j142 j143 j144 j145 j146 j147 j148 j149 j150 j151 j152 j153 j154 j155 j156 j157 j158 j159 j160 j161 j162 j163 j164 j165 j166 j167 j168 j169 j170 j171 j172 j173 j174 j175 j176 j177 j178 j179 j180 j181 j182 j183 j184 j185 j186 j187 j188 j189 j190 j191 : AV} {Q : Ex → List AV → AState → Prop}
    (hQ : ∀ (σ'' : AState) (so' : Option (Nat × Nat)) (sn' : Nat) (sc' : Option Nat) (sz' : Nat) (cs' : List AV) (j1 j5 j6 j7 j8 j9 j10 j11 j12 j13 j14 j15 j16 j17 j18 j19 j20 j21 j22 j23 j24 j25 j26 j27 j28 j29 j30 j31 j32 j33 j34 j35 j36 j37 j38 j39 j40 j41 j42 j43 j44 j45 j46 j47 j48 j49 j50 j51 j52 j53 j54 j55 j56 j57 j58 j59 j60 j61 j62 j63 j64 j65 j66 j67 j68 j69 j70 j71 j72 j73 j74 j75 j76 j77 j78 j79 j80 j81 j82 j83 j84 j85 j86 j87 j88 j89 j90 j91 j92 j93 j94 j95 j96 j97 j98 j99 j100 j101 j102 j103 j104 j105 j106 j107 j108 j109 j110 j111 j112 j113 j114 j115 j116 j117 j118 j119 j120 j121 j122 j123 j124 j125 j126 j127 j128 j129 j130 j131 j132 j133 j134 j135 j136 j137 j138 j139 j140 j141 j142 j143 j144 j145 j146 j147 j148 j149 j150 j151 j152 j153 j154 j155 j156 j157 j158 j159 j160 j161 j162 j163 j164 j165 j166 j167 j168 j169 j170 j171 j172 j173 j174 j175 j176 j177 j178 j179 j180 j181 j182 j183 j184 j185 j186 j187 j188 j189 j190 j191 : AV), Stk e σ1 σ'' so' sn' sc' sz' (bStep s x) cs' → sn' ≤ sn + 1 → Q .normal [v0, j1, p2, .slice so' sn' sc' sz', .int .i64 k, j5, j6, j7, j8, j9, j10, j11, j12, j13, j14, j15, j16, j17, j18, j19, j20, j21, j22, j23, j24, j25, j26, j27, j28, j29, j30, j31, j32, j33, j34, j35, j36, j37, j38, j39, j40, j41, j42, j43, j44, j45, j46, j47, j48, j49, j50, j51, j52, j53, j54, j55, j56, j57, j58, j59, j60, j61, j62, j63, j64, j65, j66, j67, j68, j69, j70, j71, j72, j73, j74, j75, j76, j77, j78, j79, j80, j81, j82, j83, j84, j85, j86, j87, j88, j89, j90, j91, j92, j93, j94, j95, j96, j97, j98, j99, j100, j101, j102, j103, j104, j105, j106, j107, j108, j109, j110, j111, j112, j113, j114, j115, j116, j117, j118, j119, j120, j121, j122, j123, j124, j125, j126, j127, j128, j129, j130, j131, j132, j133, j134, j135, j136, j137, j138, j139, j140, j141, j142, j143, j144, j145, j146, j147, j148, j149, j150, j151, j152, j153, j154, j155, j156, j157, j158, j159, j160, j161, j162, j163, j164, j165, j166, j167, j168, j169, j170, j171, j172, j173, j174, j175, j176, j177, j178, j179, j180, j181, j182, j183, j184, j185, j186, j187, j188, j189, j190, j191] σ'') :
    wpC RR Tryz.prog c28_31 [v0, j1, p2, .slice so sn sc sz, .int .i64 k, .int .i64 sn, .int .u8 (x / 12 : Nat), .int .u8 (x % 12 : Nat), j8, j9, j10, j11, j12, j13, j14, j15, j16, j17, j18, j19, j20, j21, j22, j23, j24, j25, j26, j27, j28, j29, j30, j31, j32, j33, j34, j35, j36, j37, j38, j39, j40, j41, j42, j43, j44, j45, j46, j47, j48, j49, j50, j51, j52, j53, j54, j55, j56, j57, j58, j59, j60, j61, j62, j63, j64, j65, j66, j67, j68, j69, j70, j71, j72, j73, j74, j75, j76, j77, j78, j79, j80, j81, j82, j83, j84, j85, j86, j87, j88, j89, j90, j91, j92, j93, j94, j95, j96, j97, j98, j99, j100, j101, j102, j103, j104, j105, j106, j107, j108, j109, j110, j111, j112, j113, j114, j115, j116, j117, j118, j119, j120, j121, j122, j123, j124, j125, j126, j127, j128, j129, j130, j131, j132, j133, j134, j135, j136, j137, j138, j139, j140, j141, j142, j143, j144, j145, j146, j147, j148, j149, j150, j151, j152, j153, j154, j155, j156, j157, j158, j159, j160, j161, j162, j163, j164, j165, j166, j167, j168, j169, j170, j171, j172, j173, j174, j175, j176, j177, j178, j179, j180, j181, j182, j183, j184, j185, j186, j187, j188, j189, j190, j191] σ' Q := by
  have hlen := hS.len
  have hcase : sc = none ∧ sz = 4 ∧ ∃ i, so = some (i, 0) ∧ σ'.get i = some (.cells cs true) := by
    rcases hS.grown.at' with ⟨_, q⟩ | ⟨q1, q2, i, q3, _, q4⟩
    · omega
    · exact ⟨q1, q2, i, q3, q4⟩
  obtain ⟨rfl, rfl, i, rfl, hgi⟩ := hcase
  have hil := hS.lt i rfl
  have hcl := hS.grown.len
  obtain ⟨f, hf⟩ : ∃ f, s[sn - 2]? = some f := ⟨s[sn - 2]'(by omega), List.getElem?_eq_getElem _⟩
  obtain ⟨f', hf'⟩ : ∃ f, s[sn - 1]? = some f := ⟨s[sn - 1]'(by omega), List.getElem?_eq_getElem _⟩
  have hdrop : s.drop (s.length - 2) = [f, f'] := by
    rw [hlen]
    refine List.ext_getElem? fun j => ?_
    rw [List.getElem?_drop]
    match j with
    | 0 => simpa using hf
    | 1 => rw [show sn - 2 + 1 = sn - 1 by omega]; simpa using hf'
    | j + 2 => rw [List.getElem?_eq_none (by omega)]; simp
  have hb : bStep s x = s.take (sn - 2) ++ [.mk (if x % 12 = 7 then 4 else if x % 12 = 8 then 5 else 6) [] [] [f, f']] := by
    unfold bStep; rw [if_neg (by omega), if_neg (by omega), if_neg (by omega), if_neg (by omega), if_neg (by omega), if_pos ⟨hr.1, hr.2.1, by omega⟩, hdrop, hlen]
  obtain ⟨_, i', xs, e', _, hl4, hxs, hd⟩ := hS.elem hf
  cases e'
  obtain ⟨_, i', xs', e', _, hl4', hxs', hd'⟩ := hS.elem hf'
  cases e'
  obtain ⟨fo, fn, fa, fl, ef⟩ := form_is f
  subst ef
  obtain ⟨fo', fn', fa', fl', ef'⟩ := form_is f'
  subst ef'
  have hd0 := hd
  have hd0' := hd'
  obtain ⟨o1, q1, z1, o2, q2, z2, rfl, _, _⟩ := F.cells hd
  obtain ⟨o1', q1', z1', o2', q2', z2', rfl, _, _⟩ := F.cells hd'
  have c1 : decide (((x % 12 : Nat) : Int) < 2) = false := decide_eq_false (by omega)
  have c2 : decide (((x % 12 : Nat) : Int) < 4) = false := decide_eq_false (by omega)
  have c3 : (((x % 12 : Nat) : Int) == 4) = false := by simp only [beq_eq_false_iff_ne]; omega
  have c4 : (((x % 12 : Nat) : Int) == 5) = false := by simp only [beq_eq_false_iff_ne]; omega
  have c5 : (((x % 12 : Nat) : Int) == 6) = false := by simp only [beq_eq_false_iff_ne]; omega
  have c6 : decide (((x % 12 : Nat) : Int) ≥ 7) = true := decide_eq_true (by omega)
  have c7 : decide (((x % 12 : Nat) : Int) < 10) = true := decide_eq_true (by omega)
  have c8 : decide ((sn : Int) ≥ 2) = true := decide_eq_true (by omega)
  have w1 : wrapF .i64 ((sn : Int) - 1) = ((sn - 1 : Nat) : Int) := by rw [wrap_i64 (by omega)]; omega
  have w2 : wrapF .i64 ((sn : Int) - 2) = ((sn - 2 : Nat) : Int) := by rw [wrap_i64 (by omega)]; omega
  have w7 : wrapF .u8 (((x % 12 : Nat) : Int) - 7) = ((x % 12 - 7 : Nat) : Int) := by rw [wrap_u8 (by omega)]; omega
  have l1 : sn - 2 ≤ sn := by omega
  have e3 : (0 : Int) ≤ ((x % 12 - 7 : Nat) : Int) ∧ ((x % 12 - 7 : Nat) : Int) < ((3 : Nat) : Int) := by omega
  have e4 : (0 : Int) ≤ ((sn - 1 : Nat) : Int) ∧ ((sn - 1 : Nat) : Int) < (sn : Int) := by omega
  have e5 : (0 : Int) ≤ ((sn - 2 : Nat) : Int) ∧ ((sn - 2 : Nat) : Int) < (sn : Int) := by omega
  have g3 : ([.int .u8 4, .int .u8 5, .int .u8 6] : List AV)[x % 12 - 7]? = some (.int .u8 ((if x % 12 = 7 then 4 else if x % 12 = 8 then 5 else 6 : Nat) : Int)) := by
    have : x % 12 = 7 ∨ x % 12 = 8 ∨ x % 12 = 9 := by omega
    rcases this with e | e | e <;> rw [e] <;> rfl
  generalize (if x % 12 = 7 then 4 else if x % 12 = 8 then 5 else 6 : Nat) = op at *
  simp -implicitDefEqProofs (maxDischargeDepth := 15) only [↓reduceIte, Yr, Ys, Yt, Yv, Yw, Yz, Wa, Wb, Wd, Wj, Wk, Wl, Wo, opA, Wv, Ww, Wx, Wy, Wz, Za, Zb, Zc, Zd, Ze, Vb, Vc, Vd, AV.cells, Vg, Vh, partA, Zf, Zg, Zh, Zi, Nat.reduceAdd, Nat.reduceLeDiff, Zj, Zk, Zl, Zm, Zn, Zo, Zp, Zs, binA, fillA, and_self, Zz, Yd, reduceCtorEq, Yf, natOf, upTo, bMax, bHigh, bLow, boundsA, evO, Yh, Yi, Vu, Vv, Yj, eq_self, Yl, or_true, Vx, c28_1, c28_2, c28_3, c28_4, c28_5, c28_6, c28_7, c28_8, c28_9, c28_10, c28_11, c28_12, c28_13, c28_14, c28_15, c28_16, c28_17, c28_18, c28_19, c28_20, c28_21, c28_22, c28_23, c28_24, c28_25, c28_26, c28_27, c28_28, c28_29, c28_30, c28_31, c1, c2, c3, c4, c5, c6, c7, c8, w1, w2, w7, l1, e3, e4, e5, g3, Nat.mul_one, Nat.sub_zero, hgi, hil, hl4, hxs, hl4', hxs']
  refine RunV.to (joinB_ok _ _ _ _ _ _) ?_
  have hS2 := (hS.push (.cells [.int .u8 4, .int .u8 5, .int .u8 6] true))
  have hW2 := hS2.grown.wf
  have hd3 : DAt (but e ((σ'.push (.cells [.int .u8 4, .int .u8 5, .int .u8 6] true)).push (.cells [.int .u8 fo, .str fn, .slice o1 fa.length q1 z1, .slice o2 fl.length q2 z2, .int .u8 fo', .str fn', .slice o1' fa'.length q1' z1', .slice o2' fl'.length q2' z2'] true)) (some (i, 0))) (.sl 4 2 (F.dvs [F.mk fo fn fa fl, F.mk fo' fn' fa' fl'])) (.slice (some ((σ'.push (.cells [.int .u8 4, .int .u8 5, .int .u8 6] true)).next, 0)) 2 (some 2) 4) := by
    refine dat_sl (cs := [.int .u8 fo, .str fn, .slice o1 fa.length q1 z1, .slice o2 fl.length q2 z2] ++ [.int .u8 fo', .str fn', .slice o1' fa'.length q1' z1', .slice o2' fl'.length q2' z2']) (w := true) (some 2) (but_mk (fun q => by have := hS2.lt _ q; omega) Vg (by have := hS2.el; omega)) rfl ?_
    show DAtL _ ((F.mk fo fn fa fl).dv ++ ((F.mk fo' fn' fa' fl').dv ++ [])) _
    rw [List.append_nil]
    exact DAtL.append_iff.2 ⟨_, _, rfl, DAtL.sub (but_sub ((sub_push hS.grown.wf _).trans (sub_push hW2 _))) _ _ hd0, DAtL.sub (but_sub ((sub_push hS.grown.wf _).trans (sub_push hW2 _))) _ _ hd0'⟩
  have hS3 := hS2.push (.cells [.int .u8 fo, .str fn, .slice o1 fa.length q1 z1, .slice o2 fl.length q2 z2, .int .u8 fo', .str fn', .slice o1' fa'.length q1' z1', .slice o2' fl'.length q2' z2'] true)
  have hW3 := hS3.grown.wf
  have hS5 := (hS3.push (.cells [.int .u8 op, .str [], nilA, .slice (some ((σ'.push (.cells [.int .u8 4, .int .u8 5, .int .u8 6] true)).next, 0)) 2 (some 2) 4] true)).push (.cells [.int .u8 op, .str [], nilA, .slice (some ((σ'.push (.cells [.int .u8 4, .int .u8 5, .int .u8 6] true)).next, 0)) 2 (some 2) 4] true)
  obtain ⟨he, hS6⟩ := hS5.appendTake (k := sn - 2) rfl (by omega) (f := .mk op [] [] [F.mk fo fn fa fl, F.mk fo' fn' fa' fl']) (xs := [.int .u8 op, .str [], nilA, .slice (some ((σ'.push (.cells [.int .u8 4, .int .u8 5, .int .u8 6] true)).next, 0)) 2 (some 2) 4])
    (fdat (dat_nil _ 3) (DAt.sub (but_sub ((sub_push hW3 _).trans (sub_push (hW3.push _) _))) _ _ hd3)) (by omega)
  simp -implicitDefEqProofs (maxDischargeDepth := 15) only [↓reduceIte, Yr, Ys, Yt, Wu, opA, Wv, Wx, Wy, Wz, Za, Zb, Zd, Ze, Vb, Vc, Vd, AV.cells, Vg, Zf, Zg, Zh, Zi, Nat.reduceAdd, Zj, Zk, Zm, Zn, Zo, Zp, Zs, Zt, fillA, and_self, lenA, firstA, eq_self, he]
  rw [← hb] at hS6
  exact hQ _ _ _ _ _ _ _ _ _ _ _ _ _ _ _ _ _ _ _ _ _ _ _ _ _ _ _ _ _ _ _ _ _ _ _ _ _ _ _ _ _ _ _ _ _ _ _ _ _ _ _ _ _ _ _ _ _ _ _ _ _ _ _ _ _ _ _ _ _ _ _ _ _ _ _ _ _ _ _ _ _ _ _ _ _ _ _ _ _ _ _ _ _ _ _ _ _ _ _ _ _ _ _ _ _ _ _ _ _ _ _ _ _ _ _ _ _ _ _ _ _ _ _ _ _ _ _ _ _ _ _ _ _ _ _ _ _ _ _ _ _ _ _ _ _ _ _ _ _ _ _ _ _ _ _ _ _ _ _ _ _ _ _ _ _ _ _ _ _ _ _ _ _ _ _ _ _ _ _ _ _ _ _ _ _ _ _ _ _ _ _ _ _ _ hS6 (by omega)
theorem bsw7 {e : Nat} {σ1 σ' : AState} {v0 p2 : AV} {k : Nat} {so : Option (Nat × Nat)} {sn : Nat} {sc : Option Nat} {sz : Nat} {s : List F} {cs : List AV} (hS : Stk e σ1 σ' so sn sc sz s cs) (hsn : sn ≤ 20) {x : Nat} (hx : x < 256) (hr : 10 ≤ x % 12 ∧ 1 ≤ sn) {j1 j8 j9 j10 j11 j12 j13 j14 j15 j16 j17 j18 j19 j20 j21 j22 j23 j24 j25 j26 j27 j28 j29 j30 j31 j32 j33 j34 j35 j36 j37 j38 j39 j40 j41 j42 j43 j44 j45 j46 j47 j48 j49 j50 j51 j52 j53 j54 j55 j56 j57 j58 j59 j60 j61 j62 j63 j64 j65 j66 j67 j68 j69 j70 j71 j72 j73 j74 j75 j76 j77 j78 j79 j80 j81 j82 j83 j84 j85 j86 j87 j88 j89 j90 j91 j92 j93 j94 j95 j96 j97 j98 j99 j100 j101 j102 j103 j104 j105 j106 j107 j108 j109 j110 j111 j112 j113 j114 j115 j116 j117 j118 j119 j120 j121 j122 j123 j124 j125 j126 j127 j128 j129 j130 j131 j132 j133 j134 j135 j136 j137 j138 j139 j140 j141 j142 j143 j144 j145 j146 j147 j148 j149 j150 j151 j152 j153 j154 j155 j156 j157 j158 j159 j160 j161 j162 j163 j164 j165 j166 j167 j168 j169 j170 j171 j172 j173 j174 j175 j176 j177 j178 j179 j180 j181 j182 j183 j184 j185 j186 j187 j188 j189 j190 j191 : AV} {Q : Ex → List AV → AState → Prop}
    (hQ : ∀ (σ'' : AState) (so' : Option (Nat × Nat)) (sn' : Nat) (sc' : Option Nat) (sz' : Nat) (cs' : List AV) (j1 j5 j6 j7 j8 j9 j10 j11 j12 j13 j14 j15 j16 j17 j18 j19 j20 j21 j22 j23 j24 j25 j26 j27 j28 j29 j30 j31 j32 j33 j34 j35 j36 j37 j38 j39 j40 j41 j42 j43 j44 j45 j46 j47 j48 j49 j50 j51 j52 j53 j54 j55 j56 j57 j58 j59 j60 j61 j62 j63 j64 j65 j66 j67 j68 j69 j70 j71 j72 j73 j74 j75 j76 j77 j78 j79 j80 j81 j82 j83 j84 j85 j86 j87 j88 j89 j90 j91 j92 j93 j94 j95 j96 j97 j98 j99 j100 j101 j102 j103 j104 j105 j106 j107 j108 j109 j110 j111 j112 j113 j114 j115 j116 j117 j118 j119 j120 j121 j122 j123 j124 j125 j126 j127 j128 j129 j130 j131 j132 j133 j134 j135 j136 j137 j138 j139 j140 j141 j142 j143 j144 j145 j146 j147 j148 j149 j150 j151 j152 j153 j154 j155 j156 j157 j158 j159 j160 j161 j162 j163 j164 j165 j166 j167 j168 j169 j170 j171 j172 j173 j174 j175 j176 j177 j178 j179 j180 j181 j182 j183 j184 j185 j186 j187 j188 j189 j190 j191 : AV), Stk e σ1 σ'' so' sn' sc' sz' (bStep s x) cs' → sn' ≤ sn + 1 → Q .normal [v0, j1, p2, .slice so' sn' sc' sz', .int .i64 k, j5, j6, j7, j8, j9, j10, j11, j12, j13, j14, j15, j16, j17, j18, j19, j20, j21, j22, j23, j24, j25, j26, j27, j28, j29, j30, j31, j32, j33, j34, j35, j36, j37, j38, j39, j40, j41, j42, j43, j44, j45, j46, j47, j48, j49, j50, j51, j52, j53, j54, j55, j56, j57, j58, j59, j60, j61, j62, j63, j64, j65, j66, j67, j68, j69, j70, j71, j72, j73, j74, j75, j76, j77, j78, j79, j80, j81, j82, j83, j84, j85, j86, j87, j88, j89, j90, j91, j92, j93, j94, j95, j96, j97, j98, j99, j100, j101, j102, j103, j104, j105, j106, j107, j108, j109, j110, j111, j112, j113, j114, j115, j116, j117, j118, j119, j120, j121, j122, j123, j124, j125, j126, j127, j128, j129, j130, j131, j132, j133, j134, j135, j136, j137, j138, j139, j140, j141, j142, j143, j144, j145, j146, j147, j148, j149, j150, j151, j152, j153, j154, j155, j156, j157, j158, j159, j160, j161, j162, j163, j164, j165, j166, j167, j168, j169, j170, j171, j172, j173, j174, j175, j176, j177, j178, j179, j180, j181, j182, j183, j184, j185, j186, j187, j188, j189, j190, j191] σ'') :
    wpC RR Tryz.prog c28_31 [v0, j1, p2, .slice so sn sc sz, .int .i64 k, .int .i64 sn, .int .u8 (x / 12 : Nat), .int .u8 (x % 12 : Nat), j8, j9, j10, j11, j12, j13, j14, j15, j16, j17, j18, j19, j20, j21, j22, j23, j24, j25, j26, j27, j28, j29, j30, j31, j32, j33, j34, j35, j36, j37, j38, j39, j40, j41, j42, j43, j44, j45, j46, j47, j48, j49, j50, j51, j52, j53, j54, j55, j56, j57, j58, j59, j60, j61, j62, j63, j64, j65, j66, j67, j68, j69, j70, j71, j72, j73, j74, j75, j76, j77, j78, j79, j80, j81, j82, j83, j84, j85, j86, j87, j88, j89, j90, j91, j92, j93, j94, j95, j96, j97, j98, j99, j100, j101, j102, j103, j104, j105, j106, j107, j108, j109, j110, j111, j112, j113, j114, j115, j116, j117, j118, j119, j120, j121, j122, j123, j124, j125, j126, j127, j128, j129, j130, j131, j132, j133, j134, j135, j136, j137, j138, j139, j140, j141, j142, j143, j144, j145, j146, j147, j148, j149, j150, j151, j152, j153, j154, j155, j156, j157, j158, j159, j160, j161, j162, j163, j164, j165, j166, j167, j168, j169, j170, j171, j172, j173, j174, j175, j176, j177, j178, j179, j180, j181, j182, j183, j184, j185, j186, j187, j188, j189, j190, j191] σ' Q := by
  have hlen := hS.len
  have hcase : sc = none ∧ sz = 4 ∧ ∃ i, so = some (i, 0) ∧ σ'.get i = some (.cells cs true) := by
    rcases hS.grown.at' with ⟨_, q⟩ | ⟨q1, q2, i, q3, _, q4⟩
    · omega
    · exact ⟨q1, q2, i, q3, q4⟩
  obtain ⟨rfl, rfl, i, rfl, hgi⟩ := hcase
  have hil := hS.lt i rfl
  have hcl := hS.grown.len
  obtain ⟨f, hf⟩ : ∃ f, s[sn - 1]? = some f := ⟨s[sn - 1]'(by omega), List.getElem?_eq_getElem _⟩
  have hdrop : s.drop (s.length - 1) = [f] := by
    rw [hlen]
    refine List.ext_getElem? fun j => ?_
    rw [List.getElem?_drop]
    cases j with
    | zero => simpa using hf
    | succ j => rw [List.getElem?_eq_none (by omega)]; simp
  have hb : bStep s x = s.take (sn - 1) ++ [.mk (8 + x % 12 - 10) [if x / 12 % 3 = 0 then 120 else if x / 12 % 3 = 1 then 121 else 122] [] [f]] := by
    unfold bStep; rw [if_neg (by omega), if_neg (by omega), if_neg (by omega), if_neg (by omega), if_neg (by omega), if_neg (by omega), if_pos ⟨hr.1, by omega⟩, hdrop, hlen]
  obtain ⟨_, i', xs, e', _, hl4, hxs, hd⟩ := hS.elem hf
  cases e'
  obtain ⟨fo, fn, fa, fl, ef⟩ := form_is f
  subst ef
  have hd0 := hd
  obtain ⟨o1, q1, z1, o2, q2, z2, rfl, _, _⟩ := F.cells hd
  have c1 : decide (((x % 12 : Nat) : Int) < 2) = false := decide_eq_false (by omega)
  have c2 : decide (((x % 12 : Nat) : Int) < 4) = false := decide_eq_false (by omega)
  have c3 : (((x % 12 : Nat) : Int) == 4) = false := by simp only [beq_eq_false_iff_ne]; omega
  have c4 : (((x % 12 : Nat) : Int) == 5) = false := by simp only [beq_eq_false_iff_ne]; omega
  have c5 : (((x % 12 : Nat) : Int) == 6) = false := by simp only [beq_eq_false_iff_ne]; omega
  have c6 : decide (((x % 12 : Nat) : Int) ≥ 7) = true := decide_eq_true (by omega)
  have c7 : decide (((x % 12 : Nat) : Int) < 10) = false := decide_eq_false (by omega)
  have c8 : decide (((x % 12 : Nat) : Int) ≥ 10) = true := decide_eq_true (by omega)
  have c9 : decide ((sn : Int) ≥ 1) = true := decide_eq_true (by omega)
  have w1 : wrapF .i64 ((sn : Int) - 1) = ((sn - 1 : Nat) : Int) := by rw [wrap_i64 (by omega)]; omega
  have w8 : wrapF .u8 (8 + ((x % 12 : Nat) : Int)) = ((8 + x % 12 : Nat) : Int) := by rw [wrap_u8 (by omega)]; omega
  have w9 : wrapF .u8 (((8 + x % 12 : Nat) : Int) - 10) = ((8 + x % 12 - 10 : Nat) : Int) := by rw [wrap_u8 (by omega)]; omega
  have l1 : sn - 1 ≤ sn := by omega
  have m3 : ((x / 12 : Nat) : Int).tmod 3 = ((x / 12 % 3 : Nat) : Int) := tmodN _ 3
  have z3 : ((3 : Int) = 0) = False := by simp
  have e3 : (0 : Int) ≤ ((x / 12 % 3 : Nat) : Int) ∧ ((x / 12 % 3 : Nat) : Int) < ((3 : Nat) : Int) := by omega
  have e4 : (0 : Int) ≤ ((sn - 1 : Nat) : Int) ∧ ((sn - 1 : Nat) : Int) < (sn : Int) := by omega
  have g3 : ([.str [120], .str [121], .str [122]] : List AV)[x / 12 % 3]? = some (.str [if x / 12 % 3 = 0 then 120 else if x / 12 % 3 = 1 then 121 else 122]) := by
    have : x / 12 % 3 = 0 ∨ x / 12 % 3 = 1 ∨ x / 12 % 3 = 2 := by omega
    rcases this with e | e | e <;> rw [e] <;> rfl
  generalize ([if x / 12 % 3 = 0 then 120 else if x / 12 % 3 = 1 then 121 else 122] : Str) = nm at *
  generalize 8 + x % 12 - 10 = op at *
  simp -implicitDefEqProofs (maxDischargeDepth := 15) only [↓reduceIte, Yr, Ys, Yt, Yv, Yw, Yz, Wa, Wb, Wd, Wj, Wk, Wl, Wo, opA, Wv, Ww, Wx, Wy, Wz, Za, Zb, Zc, Zd, Ze, Vb, Vc, Vd, AV.cells, Vg, Vh, partA, Zf, Zg, Zh, Zi, Nat.reduceAdd, Nat.reduceLeDiff, Zj, Zk, Zl, Zm, Zn, Zo, Zp, Zs, binA, fillA, and_self, Zz, Yd, reduceCtorEq, Yf, natOf, upTo, bMax, bHigh, bLow, boundsA, evO, Yh, Yi, Vu, Vv, Yj, eq_self, Yl, or_true, Vx, c28_1, c28_2, c28_3, c28_4, c28_5, c28_6, c28_7, c28_8, c28_9, c28_10, c28_11, c28_12, c28_13, c28_14, c28_15, c28_16, c28_17, c28_18, c28_19, c28_20, c28_21, c28_22, c28_23, c28_24, c28_25, c28_26, c28_27, c28_28, c28_29, c28_30, c28_31, c1, c2, c3, c4, c5, c6, c7, c8, c9, w1, w8, w9, l1, m3, z3, e3, e4, g3, Nat.mul_one, Nat.sub_zero, hgi, hil, hl4, hxs]
  refine (bound_ok _ _ _ _ _ _ _ _ _ _ _ _ _).mono ?_
  rintro u σ2 ⟨ib, rfl, hib, hgb, hG⟩
  have hS1 := hS.push (.cells [.str [120], .str [121], .str [122]] true)
  have hS2 := hS1.grow hG
  have hW2 := hS2.grown.wf
  have hd3 : DAt (but e σ2 (some (i, 0))) (.sl 4 1 (F.dvs [F.mk fo fn fa fl])) (.slice (some (ib, 0)) 1 (some 1) 4) := by
    refine dat_sl (cs := [.int .u8 fo, .str fn, .slice o1 fa.length q1 z1, .slice o2 fl.length q2 z2]) (w := true) (some 1) (but_mk (fun q => by have := hS1.lt _ q; omega) hgb (by have := hS1.el; omega)) rfl ?_
    rw [dvs_one]
    exact DAtL.sub (but_sub ((sub_push hS.grown.wf _).trans hG.sub)) _ _ hd0
  obtain ⟨he, hS6⟩ := (hS2.push (.cells [.int .u8 op, .str nm, nilA, .slice (some (ib, 0)) 1 (some 1) 4] true)).appendTake (k := sn - 1) rfl (by omega) (f := .mk op nm [] [F.mk fo fn fa fl]) (xs := [.int .u8 op, .str nm, nilA, .slice (some (ib, 0)) 1 (some 1) 4])
    (fdat (dat_nil _ 3) (DAt.sub (but_sub (sub_push hW2 _)) _ _ hd3)) (by omega)
  simp -implicitDefEqProofs (maxDischargeDepth := 15) only [↓reduceIte, Yr, Ys, Yt, Wu, opA, Wv, Wx, Wy, Wz, Za, Zb, Zd, Ze, Vb, Vc, Vd, AV.cells, Vg, Zf, Zg, Zh, Zi, Nat.reduceAdd, Zj, Zk, Zm, Zn, Zo, Zp, Zs, Zt, fillA, and_self, lenA, firstA, eq_self, he]
  rw [← hb] at hS6
  exact hQ _ _ _ _ _ _ _ _ _ _ _ _ _ _ _ _ _ _ _ _ _ _ _ _ _ _ _ _ _ _ _ _ _ _ _ _ _ _ _ _ _ _ _ _ _ _ _ _ _ _ _ _ _ _ _ _ _ _ _ _ _ _ _ _ _ _ _ _ _ _ _ _ _ _ _ _ _ _ _ _ _ _ _ _ _ _ _ _ _ _ _ _ _ _ _ _ _ _ _ _ _ _ _ _ _ _ _ _ _ _ _ _ _ _ _ _ _ _ _ _ _ _ _ _ _ _ _ _ _ _ _ _ _ _ _ _ _ _ _ _ _ _ _ _ _ _ _ _ _ _ _ _ _ _ _ _ _ _ _ _ _ _ _ _ _ _ _ _ _ _ _ _ _ _ _ _ _ _ _ _ _ _ _ _ _ _ _ _ _ _ _ _ _ _ hS6 (by omega)
theorem bsw8 {e : Nat} {σ1 σ' : AState} {v0 p2 : AV} {k : Nat} {so : Option (Nat × Nat)} {sn : Nat} {sc : Option Nat} {sz : Nat} {s : List F} {cs : List AV} (hS : Stk e σ1 σ' so sn sc sz s cs) (hsn : sn ≤ 20) {x : Nat} (hx : x < 256) (hr : (x % 12 = 6 ∧ sn = 0) ∨ (7 ≤ x % 12 ∧ x % 12 < 10 ∧ sn < 2) ∨ (10 ≤ x % 12 ∧ sn = 0)) {j1 j8 j9 j10 j11 j12 j13 j14 j15 j16 j17 j18 j19 j20 j21 j22 j23 j24 j25 j26 j27 j28 j29 j30 j31 j32 j33 j34 j35 j36 j37 j38 j39 j40 j41 j42 j43 j44 j45 j46 j47 j48 j49 j50 j51 j52 j53 j54 j55 j56 j57 j58 j59 j60 j61 j62 j63 j64 j65 j66 j67 j68 j69 j70 j71 j72 j73 j74 j75 j76 j77 j78 j79 j80 j81 j82 j83 j84 j85 j86 j87 j88 j89 j90 j91 j92 j93 j94 j95 j96 j97 j98 j99 j100 j101 j102 j103 j104 j105 j106 j107 j108 j109 j110 j111 j112 j113 j114 j115 j116 j117 j118 j119 j120 j121 j122 j123 j124 j125 j126 j127 j128 j129 j130 j131 j132 j133 j134 j135 j136 j137 j138 j139 j140 j141 j142 j143 j144 j145 j146 j147 j148 j149 j150 j151 j152 j153 j154 j155 j156 j157 j158 j159 j160 j161 j162 j163 j164 j165 j166 j167 j168 j169 j170 j171 j172 j173 j174 j175 j176 j177 j178 j179 j180 j181 j182 j183 j184 j185 j186 j187 j188 j189 j190 j191 : AV} {Q : Ex → List AV → AState → Prop}
    (hQ : ∀ (σ'' : AState) (so' : Option (Nat × Nat)) (sn' : Nat) (sc' : Option Nat) (sz' : Nat) (cs' : List AV) (j1 j5 j6 j7 j8 j9 j10 j11 j12 j13 j14 j15 j16 j17 j18 j19 j20 j21 j22 j23 j24 j25 j26 j27 j28 j29 j30 j31 j32 j33 j34 j35 j36 j37 j38 j39 j40 j41 j42 j43 j44 j45 j46 j47 j48 j49 j50 j51 j52 j53 j54 j55 j56 j57 j58 j59 j60 j61 j62 j63 j64 j65 j66 j67 j68 j69 j70 j71 j72 j73 j74 j75 j76 j77 j78 j79 j80 j81 j82 j83 j84 j85 j86 j87 j88 j89 j90 j91 j92 j93 j94 j95 j96 j97 j98 j99 j100 j101 j102 j103 j104 j105 j106 j107 j108 j109 j110 j111 j112 j113 j114 j115 j116 j117 j118 j119 j120 j121 j122 j123 j124 j125 j126 j127 j128 j129 j130 j131 j132 j133 j134 j135 j136 j137 j138 j139 j140 j141 j142 j143 j144 j145 j146 j147 j148 j149 j150 j151 j152 j153 j154 j155 j156 j157 j158 j159 j160 j161 j162 j163 j164 j165 j166 j167 j168 j169 j170 j171 j172 j173 j174 j175 j176 j177 j178 j179 j180 j181 j182 j183 j184 j185 j186 j187 j188 j189 j190 j191 : AV), Stk e σ1 σ'' so' sn' sc' sz' (bStep s x) cs' → sn' ≤ sn + 1 → Q .normal [v0, j1, p2, .slice so' sn' sc' sz', .int .i64 k, j5, j6, j7, j8, j9, j10, j11, j12, j13, j14, j15, j16, j17, j18, j19, j20, j21, j22, j23, j24, j25, j26, j27, j28, j29, j30, j31, j32, j33, j34, j35, j36, j37, j38, j39, j40, j41, j42, j43, j44, j45, j46, j47, j48, j49, j50, j51, j52, j53, j54, j55, j56, j57, j58, j59, j60, j61, j62, j63, j64, j65, j66, j67, j68, j69, j70, j71, j72, j73, j74, j75, j76, j77, j78, j79, j80, j81, j82, j83, j84, j85, j86, j87, j88, j89, j90, j91, j92, j93, j94, j95, j96, j97, j98, j99, j100, j101, j102, j103, j104, j105, j106, j107, j108, j109, j110, j111, j112, j113, j114, j115, j116, j117, j118, j119, j120, j121, j122, j123, j124, j125, j126, j127, j128, j129, j130, j131, j132, j133, j134, j135, j136, j137, j138, j139, j140, j141, j142, j143, j144, j145, j146, j147, j148, j149, j150, j151, j152, j153, j154, j155, j156, j157, j158, j159, j160, j161, j162, j163, j164, j165, j166, j167, j168, j169, j170, j171, j172, j173, j174, j175, j176, j177, j178, j179, j180, j181, j182, j183, j184, j185, j186, j187, j188, j189, j190, j191] σ'') :
    wpC RR Tryz.prog c28_31 [v0, j1, p2, .slice so sn sc sz, .int .i64 k, .int .i64 sn, .int .u8 (x / 12 : Nat), .int .u8 (x % 12 : Nat), j8, j9, j10, j11, j12, j13, j14, j15, j16, j17, j18, j19, j20, j21, j22, j23, j24, j25, j26, j27, j28, j29, j30, j31, j32, j33, j34, j35, j36, j37, j38, j39, j40, j41, j42, j43, j44, j45, j46, j47, j48, j49, j50, j51, j52, j53, j54, j55, j56, j57, j58, j59, j60, j61, j62, j63, j64, j65, j66, j67, j68, j69, j70, j71, j72, j73, j74, j75, j76, j77, j78, j79, j80, j81, j82, j83, j84, j85, j86, j87, j88, j89, j90, j91, j92, j93, j94, j95, j96, j97, j98, j99, j100, j101, j102, j103, j104, j105, j106, j107, j108, j109, j110, j111, j112, j113, j114, j115, j116, j117, j118, j119, j120, j121, j122, j123, j124, j125, j126, j127, j128, j129, j130, j131, j132, j133, j134, j135, j136, j137, j138, j139, j140, j141, j142, j143, j144, j145, j146, j147, j148, j149, j150, j151, j152, j153, j154, j155, j156, j157, j158, j159, j160, j161, j162, j163, j164, j165, j166, j167, j168, j169, j170, j171, j172, j173, j174, j175, j176, j177, j178, j179, j180, j181, j182, j183, j184, j185, j186, j187, j188, j189, j190, j191] σ' Q := by
  have hlen := hS.len
  have hb : bStep s x = s := by
    unfold bStep; rw [if_neg (by omega), if_neg (by omega), if_neg (by omega), if_neg (by omega), if_neg (by omega), if_neg (by omega), if_neg (by omega)]
  have c1 : decide (((x % 12 : Nat) : Int) < 2) = false := decide_eq_false (by omega)
  have c2 : decide (((x % 12 : Nat) : Int) < 4) = false := decide_eq_false (by omega)
  have c3 : (((x % 12 : Nat) : Int) == 4) = false := by simp only [beq_eq_false_iff_ne]; omega
  have c4 : (((x % 12 : Nat) : Int) == 5) = false := by simp only [beq_eq_false_iff_ne]; omega
  rw [← hb] at hS
  rcases hr with ⟨hr, hn⟩ | ⟨hr, hr2, hn⟩ | ⟨hr, hn⟩
  · have c5 : (((x % 12 : Nat) : Int) == 6) = true := by simp only [beq_iff_eq]; omega
    have c6 : decide ((sn : Int) ≥ 1) = false := decide_eq_false (by omega)
    have c7 : decide (((x % 12 : Nat) : Int) ≥ 7) = false := decide_eq_false (by omega)
    have c8 : decide (((x % 12 : Nat) : Int) ≥ 10) = false := decide_eq_false (by omega)
    simp -implicitDefEqProofs (maxDischargeDepth := 15) only [↓reduceIte, Yr, Ys, Yt, Yv, Yw, Wa, Wd, Wg, Wj, Wk, Wl, Wo, opA, Wv, Ww, Wx, Wy, Wz, Za, Zb, Vb, binA, Yd, Vu, Vv, Yj, eq_self, Vx, c28_1, c28_2, c28_3, c28_4, c28_5, c28_6, c28_7, c28_8, c28_9, c28_10, c28_11, c28_12, c28_13, c28_14, c28_15, c28_16, c28_17, c28_18, c28_19, c28_20, c28_21, c28_22, c28_23, c28_24, c28_25, c28_26, c28_27, c28_28, c28_29, c28_30, c28_31, c1, c2, c3, c4, c5, c6, c7, c8]
    exact hQ _ _ _ _ _ _ _ _ _ _ _ _ _ _ _ _ _ _ _ _ _ _ _ _ _ _ _ _ _ _ _ _ _ _ _ _ _ _ _ _ _ _ _ _ _ _ _ _ _ _ _ _ _ _ _ _ _ _ _ _ _ _ _ _ _ _ _ _ _ _ _ _ _ _ _ _ _ _ _ _ _ _ _ _ _ _ _ _ _ _ _ _ _ _ _ _ _ _ _ _ _ _ _ _ _ _ _ _ _ _ _ _ _ _ _ _ _ _ _ _ _ _ _ _ _ _ _ _ _ _ _ _ _ _ _ _ _ _ _ _ _ _ _ _ _ _ _ _ _ _ _ _ _ _ _ _ _ _ _ _ _ _ _ _ _ _ _ _ _ _ _ _ _ _ _ _ _ _ _ _ _ _ _ _ _ _ _ _ _ _ _ _ _ _ hS (by omega)
  · have c5 : (((x % 12 : Nat) : Int) == 6) = false := by simp only [beq_eq_false_iff_ne]; omega
    have c6 : decide ((sn : Int) ≥ 2) = false := decide_eq_false (by omega)
    have c7 : decide (((x % 12 : Nat) : Int) ≥ 7) = true := decide_eq_true (by omega)
    have c8 : decide (((x % 12 : Nat) : Int) < 10) = true := decide_eq_true (by omega)
    have c9 : decide (((x % 12 : Nat) : Int) ≥ 10) = false := decide_eq_false (by omega)
    simp -implicitDefEqProofs (maxDischargeDepth := 15) only [↓reduceIte, Yr, Ys, Yt, Yv, Yw, Wa, Wd, Wg, Wj, Wk, Wl, Wo, opA, Wv, Ww, Wx, Wy, Wz, Za, Zb, Vb, binA, Yd, Vu, Vv, Yj, eq_self, Vx, c28_1, c28_2, c28_3, c28_4, c28_5, c28_6, c28_7, c28_8, c28_9, c28_10, c28_11, c28_12, c28_13, c28_14, c28_15, c28_16, c28_17, c28_18, c28_19, c28_20, c28_21, c28_22, c28_23, c28_24, c28_25, c28_26, c28_27, c28_28, c28_29, c28_30, c28_31, c1, c2, c3, c4, c5, c6, c7, c8, c9]
    exact hQ _ _ _ _ _ _ _ _ _ _ _ _ _ _ _ _ _ _ _ _ _ _ _ _ _ _ _ _ _ _ _ _ _ _ _ _ _ _ _ _ _ _ _ _ _ _ _ _ _ _ _ _ _ _ _ _ _ _ _ _ _ _ _ _ _ _ _ _ _ _ _ _ _ _ _ _ _ _ _ _ _ _ _ _ _ _ _ _ _ _ _ _ _ _ _ _ _ _ _ _ _ _ _ _ _ _ _ _ _ _ _ _ _ _ _ _ _ _ _ _ _ _ _ _ _ _ _ _ _ _ _ _ _ _ _ _ _ _ _ _ _ _ _ _ _ _ _ _ _ _ _ _ _ _ _ _ _ _ _ _ _ _ _ _ _ _ _ _ _ _ _ _ _ _ _ _ _ _ _ _ _ _ _ _ _ _ _ _ _ _ _ _ _ _ hS (by omega)
  · have c5 : (((x % 12 : Nat) : Int) == 6) = false := by simp only [beq_eq_false_iff_ne]; omega
    have c6 : decide ((sn : Int) ≥ 1) = false := decide_eq_false (by omega)
    have c7 : decide (((x % 12 : Nat) : Int) ≥ 7) = true := decide_eq_true (by omega)
    have c8 : decide (((x % 12 : Nat) : Int) < 10) = false := decide_eq_false (by omega)
    have c9 : decide (((x % 12 : Nat) : Int) ≥ 10) = true := decide_eq_true (by omega)
    simp -implicitDefEqProofs (maxDischargeDepth := 15) only [↓reduceIte, Yr, Ys, Yt, Yv, Yw, Wa, Wd, Wg, Wj, Wk, Wl, Wo, opA, Wv, Ww, Wx, Wy, Wz, Za, Zb, Vb, binA, Yd, Vu, Vv, Yj, eq_self, Vx, c28_1, c28_2, c28_3, c28_4, c28_5, c28_6, c28_7, c28_8, c28_9, c28_10, c28_11, c28_12, c28_13, c28_14, c28_15, c28_16, c28_17, c28_18, c28_19, c28_20, c28_21, c28_22, c28_23, c28_24, c28_25, c28_26, c28_27, c28_28, c28_29, c28_30, c28_31, c1, c2, c3, c4, c5, c6, c7, c8, c9]
    exact hQ _ _ _ _ _ _ _ _ _ _ _ _ _ _ _ _ _ _ _ _ _ _ _ _ _ _ _ _ _ _ _ _ _ _ _ _ _ _ _ _ _ _ _ _ _ _ _ _ _ _ _ _ _ _ _ _ _ _ _ _ _ _ _ _ _ _ _ _ _ _ _ _ _ _ _ _ _ _ _ _ _ _ _ _ _ _ _ _ _ _ _ _ _ _ _ _ _ _ _ _ _ _ _ _ _ _ _ _ _ _ _ _ _ _ _ _ _ _ _ _ _ _ _ _ _ _ _ _ _ _ _ _ _ _ _ _ _ _ _ _ _ _ _ _ _ _ _ _ _ _ _ _ _ _ _ _ _ _ _ _ _ _ _ _ _ _ _ _ _ _ _ _ _ _ _ _ _ _ _ _ _ _ _ _ _ _ _ _ _ _ _ _ _ _ hS (by omega)
end Go.Am
namespace Go.Am
open Go.RowKit Go.Proofs Do
set_option maxRecDepth 100000
theorem bsw {e : Nat} {σ1 σ' : AState} {v0 p2 : AV} {k : Nat} {so : Option (Nat × Nat)} {sn : Nat} {sc : Option Nat} {sz : Nat} {s : List F} {cs : List AV} (hS : Stk e σ1 σ' so sn sc sz s cs) (hsn : sn ≤ 20) {x : Nat} (hx : x < 256) {j1 j8 j9 j10 j11 j12 j13 j14 j15 j16 j17 j18 j19 j20 j21 j22 j23 j24 j25 j26 j27 j28 j29 j30 j31 j32 j33 j34 j35 j36 j37 j38 j39 j40 j41 j42 j43 j44 j45 j46 j47 j48 j49 j50 j51 j52 j53 j54 j55 j56 j57 j58 j59 j60 j61 j62 j63 j64 j65 j66 j67 j68 j69 j70 j71 j72 j73 j74 j75 j76 j77 j78 j79 j80 j81 j82 j83 j84 j85 j86 j87 j88 j89 j90 j91 j92 j93 j94 j95 j96 j97 j98 j99 j100 j101 j102 j103 j104 j105 j106 j107 j108 j109 j110 j111 j112 j113 j114 j115 j116 j117 j118 j119 j120 j121 j122 j123 j124 j125 j126 j127 j128 j129 j130 j131 j132 j133 j134 j135 j136 j137 j138 j139 j140 j141 j142 j143 j144 j145 j146 j147 j148 j149 j150 j151 j152 j153 j154 j155 j156 j157 j158 j159 j160 j161 j162 j163 j164 j165 j166 j167 j168 j169 j170 j171 j172 j173 j174 j175 j176 j177 j178 j179 j180 j181 j182 j183 j184 j185 j186 j187 j188 j189 j190 j191 : AV} {Q : Ex → List AV → AState → Prop}
    (hQ : ∀ (σ'' : AState) (so' : Option (Nat × Nat)) (sn' : Nat) (sc' : Option Nat) (sz' : Nat) (cs' : List AV) (j1 j5 j6 j7 j8 j9 j10 j11 j12 j13 j14 j15 j16 j17 j18 j19 j20 j21 j22 j23 j24 j25 j26 j27 j28 j29 j30 j31 j32 j33 j34 j35 j36 j37 j38 j39 j40 j41 j42 j43 j44 j45 j46 j47 j48 j49 j50 j51 j52 j53 j54 j55 j56 j57 j58 j59 j60 j61 j62 j63 j64 j65 j66 j67 j68 j69 j70 j71 j72 j73 j74 j75 j76 j77 j78 j79 j80 j81 j82 j83 j84 j85 j86 j87 j88 j89 j90 j91 j92 j93 j94 j95 j96 j97 j98 j99 j100 j101 j102 j103 j104 j105 j106 j107 j108 j109 j110 j111 j112 j113 j114 j115 j116 j117 j118 j119 j120 j121 j122 j123 j124 j125 j126 j127 j128 j129 j130 j131 j132 j133 j134 j135 j136 j137 j138 j139 j140 j141 j142 j143 j144 j145 j146 j147 j148 j149 j150 j151 j152 j153 j154 j155 j156 j157 j158 j159 j160 j161 j162 j163 j164 j165 j166 j167 j168 j169 j170 j171 j172 j173 j174 j175 j176 j177 j178 j179 j180 j181 j182 j183 j184 j185 j186 j187 j188 j189 j190 j191 : AV), Stk e σ1 σ'' so' sn' sc' sz' (bStep s x) cs' → sn' ≤ sn + 1 → Q .normal [v0, j1, p2, .slice so' sn' sc' sz', .int .i64 k, j5, j6, j7, j8, j9, j10, j11, j12, j13, j14, j15, j16, j17, j18, j19, j20, j21, j22, j23, j24, j25, j26, j27, j28, j29, j30, j31, j32, j33, j34, j35, j36, j37, j38, j39, j40, j41, j42, j43, j44, j45, j46, j47, j48, j49, j50, j51, j52, j53, j54, j55, j56, j57, j58, j59, j60, j61, j62, j63, j64, j65, j66, j67, j68, j69, j70, j71, j72, j73, j74, j75, j76, j77, j78, j79, j80, j81, j82, j83, j84, j85, j86, j87, j88, j89, j90, j91, j92, j93, j94, j95, j96, j97, j98, j99, j100, j101, j102, j103, j104, j105, j106, j107, j108, j109, j110, j111, j112, j113, j114, j115, j116, j117, j118, j119, j120, j121, j122, j123, j124, j125, j126, j127, j128, j129, j130, j131, j132, j133, j134, j135, j136, j137, j138, j139, j140, j141, j142, j143, j144, j145, j146, j147, j148, j149, j150, j151, j152, j153, j154, j155, j156, j157, j158, j159, j160, j161, j162, j163, j164, j165, j166, j167, j168, j169, j170, j171, j172, j173, j174, j175, j176, j177, j178, j179, j180, j181, j182, j183, j184, j185, j186, j187, j188, j189, j190, j191] σ'') :
    wpC RR Tryz.prog c28_31 [v0, j1, p2, .slice so sn sc sz, .int .i64 k, .int .i64 sn, .int .u8 (x / 12 : Nat), .int .u8 (x % 12 : Nat), j8, j9, j10, j11, j12, j13, j14, j15, j16, j17, j18, j19, j20, j21, j22, j23, j24, j25, j26, j27, j28, j29, j30, j31, j32, j33, j34, j35, j36, j37, j38, j39, j40, j41, j42, j43, j44, j45, j46, j47, j48, j49, j50, j51, j52, j53, j54, j55, j56, j57, j58, j59, j60, j61, j62, j63, j64, j65, j66, j67, j68, j69, j70, j71, j72, j73, j74, j75, j76, j77, j78, j79, j80, j81, j82, j83, j84, j85, j86, j87, j88, j89, j90, j91, j92, j93, j94, j95, j96, j97, j98, j99, j100, j101, j102, j103, j104, j105, j106, j107, j108, j109, j110, j111, j112, j113, j114, j115, j116, j117, j118, j119, j120, j121, j122, j123, j124, j125, j126, j127, j128, j129, j130, j131, j132, j133, j134, j135, j136, j137, j138, j139, j140, j141, j142, j143, j144, j145, j146, j147, j148, j149, j150, j151, j152, j153, j154, j155, j156, j157, j158, j159, j160, j161, j162, j163, j164, j165, j166, j167, j168, j169, j170, j171, j172, j173, j174, j175, j176, j177, j178, j179, j180, j181, j182, j183, j184, j185, j186, j187, j188, j189, j190, j191] σ' Q := by
  have h12 : x % 12 < 12 := Nat.mod_lt _ (by omega)
  by_cases h1 : x % 12 < 2
  · exact bsw1 hS hsn hx h1 hQ
  by_cases h2 : x % 12 < 4
  · exact bsw2 hS hsn hx ⟨by omega, h2⟩ hQ
  by_cases h3 : x % 12 = 4
  · exact bsw3 hS hsn hx h3 hQ
  by_cases h4 : x % 12 = 5
  · exact bsw4 hS hsn hx h4 hQ
  by_cases h5 : x % 12 = 6 ∧ 1 ≤ sn
  · exact bsw5 hS hsn hx h5 hQ
  by_cases h6 : 7 ≤ x % 12 ∧ x % 12 < 10 ∧ 2 ≤ sn
  · exact bsw6 hS hsn hx h6 hQ
  by_cases h7 : 10 ≤ x % 12 ∧ 1 ≤ sn
  · exact bsw7 hS hsn hx h7 hQ
  · exact bsw8 hS hsn hx (by omega) hQ
theorem list_range {ts : List AV} {n : Nat} (h : ts.length = n) : ts = (List.range n).map (fun i => ts.getD i U) := by
  refine List.ext_getElem? fun i => ?_
  rw [List.getElem?_map]
  rcases Nat.lt_or_ge i n with q | q
  · rw [List.getElem?_range q, List.getElem?_eq_getElem (by omega)]
    simp [List.getD, List.getElem?_eq_getElem (show i < ts.length by omega)]
  · rw [List.getElem?_eq_none (by omega), List.getElem?_eq_none (by simpa using q)]; rfl
structure BLive (ts : List AV) (v0 v2 v3 v4 : AV) : Prop where
  len : ts.length = 192
  t0 : ts.getD 0 U = v0
  t2 : ts.getD 2 U = v2
  t3 : ts.getD 3 U = v3
  t4 : ts.getD 4 U = v4
theorem BLive.open {ts : List AV} {v0 v2 v3 v4 : AV} (h : BLive ts v0 v2 v3 v4) : ∃ a : Nat → AV, ts = [v0, a 1, v2, v3, v4, a 5, a 6, a 7, a 8, a 9, a 10, a 11, a 12, a 13, a 14, a 15, a 16, a 17, a 18, a 19, a 20, a 21, a 22, a 23, a 24, a 25, a 26, a 27, a 28, a 29, a 30, a 31, a 32, a 33, a 34, a 35, a 36, a 37, a 38, a 39, a 40, a 41, a 42, a 43, a 44, a 45, a 46, a 47, a 48, a 49, a 50, a 51, a 52, a 53, a 54, a 55, a 56, a 57, a 58, a 59, a 60, a 61, a 62, a 63, a 64, a 65, a 66, a 67, a 68, a 69, a 70, a 71, a 72, a 73, a 74, a 75, a 76, a 77, a 78, a 79, a 80, a 81, a 82, a 83, a 84, a 85, a 86, a 87, a 88, a 89, a 90, a 91, a 92, a 93, a 94, a 95, a 96, a 97, a 98, a 99, a 100, a 101, a 102, a 103, a 104, a 105, a 106, a 107, a 108, a 109, a 110, a 111, a 112, a 113, a 114, a 115, a 116, a 117, a 118, a 119, a 120, a 121, a 122, a 123, a 124, a 125, a 126, a 127, a 128, a 129, a 130, a 131, a 132, a 133, a 134, a 135, a 136, a 137, a 138, a 139, a 140, a 141, a 142, a 143, a 144, a 145, a 146, a 147, a 148, a 149, a 150, a 151, a 152, a 153, a 154, a 155, a 156, a 157, a 158, a 159, a 160, a 161, a 162, a 163, a 164, a 165, a 166, a 167, a 168, a 169, a 170, a 171, a 172, a 173, a 174, a 175, a 176, a 177, a 178, a 179, a 180, a 181, a 182, a 183, a 184, a 185, a 186, a 187, a 188, a 189, a 190, a 191] := by
  have h1 := list_range h.len
  refine ⟨fun i => ts.getD i U, ?_⟩
  rw [← h.t0, ← h.t2, ← h.t3, ← h.t4]
  exact h1
structure BLive2 (ts : List AV) (v2 v3 v8 v9 : AV) : Prop where
  len : ts.length = 192
  t2 : ts.getD 2 U = v2
  t3 : ts.getD 3 U = v3
  t8 : ts.getD 8 U = v8
  t9 : ts.getD 9 U = v9
theorem BLive2.open {ts : List AV} {v2 v3 v8 v9 : AV} (h : BLive2 ts v2 v3 v8 v9) : ∃ a : Nat → AV, ts = [a 0, a 1, v2, v3, a 4, a 5, a 6, a 7, v8, v9, a 10, a 11, a 12, a 13, a 14, a 15, a 16, a 17, a 18, a 19, a 20, a 21, a 22, a 23, a 24, a 25, a 26, a 27, a 28, a 29, a 30, a 31, a 32, a 33, a 34, a 35, a 36, a 37, a 38, a 39, a 40, a 41, a 42, a 43, a 44, a 45, a 46, a 47, a 48, a 49, a 50, a 51, a 52, a 53, a 54, a 55, a 56, a 57, a 58, a 59, a 60, a 61, a 62, a 63, a 64, a 65, a 66, a 67, a 68, a 69, a 70, a 71, a 72, a 73, a 74, a 75, a 76, a 77, a 78, a 79, a 80, a 81, a 82, a 83, a 84, a 85, a 86, a 87, a 88, a 89, a 90, a 91, a 92, a 93, a 94, a 95, a 96, a 97, a 98, a 99, a 100, a 101, a 102, a 103, a 104, a 105, a 106, a 107, a 108, a 109, a 110, a 111, a 112, a 113, a 114, a 115, a 116, a 117, a 118, a 119, a 120, a 121, a 122, a 123, a 124, a 125, a 126, a 127, a 128, a 129, a 130, a 131, a 132, a 133, a 134, a 135, a 136, a 137, a 138, a 139, a 140, a 141, a 142, a 143, a 144, a 145, a 146, a 147, a 148, a 149, a 150, a 151, a 152, a 153, a 154, a 155, a 156, a 157, a 158, a 159, a 160, a 161, a 162, a 163, a 164, a 165, a 166, a 167, a 168, a 169, a 170, a 171, a 172, a 173, a 174, a 175, a 176, a 177, a 178, a 179, a 180, a 181, a 182, a 183, a 184, a 185, a 186, a 187, a 188, a 189, a 190, a 191] := by
  have h1 := list_range h.len
  refine ⟨fun i => ts.getD i U, ?_⟩
  rw [← h.t2, ← h.t3, ← h.t8, ← h.t9]
  exact h1
theorem untils_take {f : F} {r : List F} {j : Nat} {g : F} (h : r[j]? = some g) : untils f (r.take (j + 1)) = .mk 14 [] [] [untils f (r.take j), g] := by
  unfold untils
  rw [foldl_take _ _ h]
theorem kept_but {σ3 σ'' : AState} {i8 e : Nat} (h : Kept (fun i => i = i8) σ3 σ'') : Sub (but e σ3 (some (i8, 0))) (but e σ'' (some (i8, 0))) := fun j b q => by
  obtain ⟨h1, h2, h3⟩ := but_some q
  exact but_mk h1 (h.keep j b (fun w => h1 (by rw [w])) h2) h3
set_option maxHeartbeats 4000000 in
theorem built_tail {σ σ' : AState} {ts : List AV} {v0 v4 : AV} {so : Option (Nat × Nat)} {sn : Nat} {sc : Option Nat} {sz : Nat} {s : List F} {cs : List AV} (hLv0 : BLive ts v0 (.ptr (some (σ.next, 0))) (.slice so sn sc sz) v4) (hW : σ.Wf) (hS : Stk σ.next (σ.push (.cells [.int .u8 0, .str [], nilA, nilA] true)) σ' so sn sc sz s cs) (hsn : sn ≤ 20) :
    wpC RR Tryz.prog c28_54 ts σ' (EndOk [(2, some (some 4))] (fun u σ' => ∃ xs, u = .agg xs ∧ DAtL (newer σ σ') (match s with | [] => F.mk 2 [] [] [] | f :: r => untils f r).dv xs ∧ Grow σ σ')) := by
  obtain ⟨a, rfl⟩ := hLv0.open
  have hW1 := hW.push (.cells [.int .u8 0, .str [], nilA, nilA] true)
  have hG : Grow σ σ' := ⟨Nat.le_of_succ_le hS.grown.le, fun i b e => hS.grown.keep i b (sub_push hW _ i b e), hS.grown.wf⟩
  have h2 : σ'.get σ.next = some (.cells [.int .u8 0, .str [], nilA, nilA] true) := hS.grown.keep _ _ Vg
  have h2l := hS.grown.wf.lt h2
  have hlen := hS.len
  cases s with
  | nil =>
    have hs0 : sn = 0 := by simpa using hlen.symm
    subst hs0
    simp -implicitDefEqProofs (maxDischargeDepth := 15) only [↓reduceIte, Yr, Ys, Yt, Yz, Wb, Wj, Wk, Wl, Wo, opA, Wv, Ww, Wx, Wy, Wz, Za, Zb, Vb, Zh, Zi, binA, eq_self, c28_40, c28_41, c28_42, c28_43, c28_44, c28_45, c28_46, c28_47, c28_48, c28_49, c28_50, c28_51, c28_52, c28_53, c28_54, show (((0 : Nat) : Int) == 0) = true from rfl]
    refine RunV.to (joinB_ok _ _ _ _ _ _) ?_
    simp -implicitDefEqProofs (maxDischargeDepth := 15) only [↓reduceIte, Yr, Ys, Yt, Wh, Wo, Wq, Wu, opA, Wv, Wx, Wy, Wz, Va, Za, Zb, Zd, Ze, Vb, Vc, Ve, AV.cells, Vh, Vk, partA, Zf, Zg, Nat.reduceAdd, Zj, Zk, Zm, Zn, Zo, Zp, Zs, Zt, putL, allOne, Zu, Zv, AV.one, Zy, and_self, EndOk, resultA, oneOf, eq_self, h2, h2l]
    exact ⟨_, rfl, fdat (dat_nil _ 3) (dat_nil _ 4), (hG.push _).set hW (Nat.le_refl _) (by simp only [AState.push_next]; omega) _⟩
  | cons f r =>
    have c0 : ((sn : Int) == 0) = false := by simp only [beq_eq_false_iff_ne]; simp only [List.length_cons] at hlen; omega
    obtain ⟨rfl, i, xs, rfl, hgi, hl4, hxs, hd⟩ := hS.elem (k := 0) (f := f) rfl
    simp only [Nat.zero_mul, Nat.zero_add, List.drop_zero] at hl4 hxs
    obtain ⟨fo, fn, fa, fl, ef⟩ := form_is f
    have hd0 := hd
    rw [ef] at hd
    obtain ⟨o1, q1, z1, o2, q2, z2, rfl, _, _⟩ := F.cells hd
    have e0 : (0 : Int) ≤ 0 ∧ (0 : Int) < (sn : Int) := by simp only [List.length_cons] at hlen; omega
    have hil := hS.grown.wf.lt hgi
    simp -implicitDefEqProofs (maxDischargeDepth := 15) only [↓reduceIte, Yr, Ys, Yt, Wa, Wg, Wj, Wk, Wl, Wm, Wo, opA, Wv, Ww, Wx, Wy, Wz, Va, Za, Zb, Zd, Ze, Vb, Vc, Vd, Ve, AV.cells, Vg, Vn, partA, Zf, Zg, Nat.reduceAdd, Zj, Zk, Zl, Zm, Zn, Zp, Zs, binA, putL, allOne, Zu, Zv, AV.one, Zy, and_self, eq_self, Yl, Ym, c28_40, c28_41, c28_42, c28_43, c28_44, c28_45, c28_46, c28_47, c28_48, c28_49, c28_50, c28_51, c28_52, c28_53, c28_54, c0, e0, hgi, hl4, hxs]
    have hWs := hS.grown.wf
    have hS3 := hS.push (.cells [.int .u8 fo, .str fn, .slice o1 fa.length q1 z1, .slice o2 fl.length q2 z2] true)
    have hG3 := hG.push (.cells [.int .u8 fo, .str fn, .slice o1 fa.length q1 z1, .slice o2 fl.length q2 z2] true)
    have hd3 : DAtL (but σ.next (σ'.push (.cells [.int .u8 fo, .str fn, .slice o1 fa.length q1 z1, .slice o2 fl.length q2 z2] true)) (some (σ'.next, 0))) f.dv [.int .u8 fo, .str fn, .slice o1 fa.length q1 z1, .slice o2 fl.length q2 z2] := by
      refine DAtL.sub (fun j b q => ?_) _ _ hd0
      obtain ⟨h1, h2, h3⟩ := but_some q
      exact but_mk (fun w => by cases w; have := hWs.lt h2; omega) (sub_push hWs _ j b h2) h3
    refine wp_loop (fun ts σ'' m => ∃ (j : Nat) (ys : List AV), Kept (fun i => i = σ'.next) (σ'.push (.cells [.int .u8 fo, .str fn, .slice o1 fa.length q1 z1, .slice o2 fl.length q2 z2] true)) σ'' ∧ σ''.get σ'.next = some (.cells ys true) ∧
      DAtL (but σ.next σ'' (some (σ'.next, 0))) (untils f (r.take j)).dv ys ∧ j + 1 + m = sn ∧ BLive2 ts (.ptr (some (σ.next, 0))) (.slice (some (i, 0)) sn sc 4) (.ptr (some (σ'.next, 0))) (.int .i64 ((j + 1 : Nat) : Int))) (sn - 1)
      ⟨0, _, Kept.refl (hWs.push _), Vg, hd3, by simp only [List.length_cons] at hlen; omega, rfl, rfl, rfl, rfl, rfl⟩ ?_
    rintro m ts σ'' ⟨j, ys, hK, hg8, hdy, hjm, hLv⟩
    obtain ⟨a, rfl⟩ := hLv.open
    have h8l := hK.wf.lt hg8
    obtain ⟨uo, un, ua, ul, eu⟩ := form_is (untils f (r.take j))
    have hdy0 := hdy
    rw [eu] at hdy
    obtain ⟨p1, p2, p3, p4, p5, p6, rfl, _, _⟩ := F.cells hdy
    by_cases hlt : j + 1 < sn
    · have c1 : decide (((j + 1 : Nat) : Int) < (sn : Int)) = true := decide_eq_true (by omega)
      obtain ⟨g, hg, _⟩ := get_lt (l := r) (k := j) (by simp only [List.length_cons] at hlen; omega)
      obtain ⟨_, i2, zs, e2, hgi2, hl42, hzs, hdg⟩ := hS.elem (k := j + 1) (f := g) (by simpa using hg)
      cases e2
      obtain ⟨go, gn, ga, gl, eg⟩ := form_is g
      have hdg0 := hdg
      rw [eg] at hdg
      obtain ⟨r1, r2, r3, r4, r5, r6, rfl, _, _⟩ := F.cells hdg
      have hgk := hK.keep i _ (by omega) (sub_push hWs _ _ _ hgi)
      have hgkl := hK.wf.lt hgk
      have e4 : (0 : Int) ≤ ((j + 1 : Nat) : Int) ∧ ((j + 1 : Nat) : Int) < (sn : Int) := by omega
      have hne8 : i ≠ σ'.next := by omega
      simp -implicitDefEqProofs (maxDischargeDepth := 15) only [↓reduceIte, Yr, Ys, Yt, Yz, Wb, Wg, Wj, Wk, Wl, Wm, Wo, Wp, Wq, Ws, Wt, opA, Wv, Ww, Wx, Wy, Wz, Za, Zb, Zc, Zd, Ze, Vb, Vc, Vd, AV.cells, partA, Zf, Zg, Zh, Zi, Nat.reduceAdd, Nat.reduceLeDiff, Zj, Zk, Zm, Zn, Zo, Zp, Zs, Zt, binA, fillA, and_self, EndOk, resultA, oneOf, Yf, eq_self, Yp, e4, hg8, hgk, hl42, hzs]
      refine RunV.to (joinB_ok _ _ _ _ _ _) ?_
      have h8n : σ'.next < σ''.next := h8l
      simp -implicitDefEqProofs (maxDischargeDepth := 15) only [↓reduceIte, Yr, Ys, Yt, Wj, Wo, Wr, Wu, opA, Wv, Ww, Wx, Wy, Wz, Va, Za, Zb, Zd, Ze, Vb, Vc, Ve, AV.cells, Vh, Vj, Vk, Zf, Zg, Nat.reduceAdd, Zj, Zk, Zn, Zp, Zs, binA, putL, allOne, Zu, Zv, AV.one, Zy, and_self, eq_self, hg8, h8l]
      rw [wrap_i64 (n := ((j + 1 : Nat) : Int) + 1) (by omega)]
      have hW5 := hK.wf
      have hk5 : Kept (fun i => i = σ'.next) σ'' ((((σ''.push (.cells [.int .u8 uo, .str un, .slice p1 ua.length p2 p3, .slice p4 ul.length p5 p6, .int .u8 go, .str gn, .slice r1 ga.length r2 r3, .slice r4 gl.length r5 r6] true)).push (.cells [.int .u8 14, .str [], nilA, .slice (some (σ''.next, 0)) 2 (some 2) 4] true)).set σ'.next (.cells [.int .u8 14, .str [], nilA, .slice (some (σ''.next, 0)) 2 (some 2) 4] true))) :=
        ⟨by simp only [AState.set_next, AState.push_next]; omega, fun i b hi e => by rw [Vl hi]; exact sub_push (hW5.push _) _ i b (sub_push hW5 _ i b e), ((hW5.push _).push _).set (by simp only [AState.push_next]; omega) _⟩
      refine ⟨m - 1, by omega, j + 1, _, hK.trans hk5, rfl, ?_, by omega, rfl, rfl, rfl, rfl, rfl⟩
      rw [untils_take hg]
      refine fdat (dat_nil _ 3) ?_
      refine dat_sl (cs := [.int .u8 uo, .str un, .slice p1 ua.length p2 p3, .slice p4 ul.length p5 p6] ++ [.int .u8 go, .str gn, .slice r1 ga.length r2 r3, .slice r4 gl.length r5 r6]) (w := true) (some 2) (but_mk (fun w => by simp only [Option.some.injEq, Prod.mk.injEq] at w; omega) ?_ (by have := hS.el; omega)) rfl ?_
      · rw [Vl (by omega), Vh Vi, Vg]; rfl
      · show DAtL _ ((untils f (r.take j)).dv ++ (g.dv ++ [])) _
        rw [List.append_nil]
        refine DAtL.append_iff.2 ⟨_, _, rfl, DAtL.sub (kept_but hk5) _ _ hdy0, ?_⟩
        refine DAtL.sub (fun j b q => ?_) _ _ hdg0
        obtain ⟨h1, h2, h3⟩ := but_some q
        have hjl := hWs.lt h2
        exact but_mk (fun w => by cases w; omega) (hk5.keep j b (by omega) (hK.keep j b (by omega) (sub_push hWs _ j b h2))) h3
    · have c1 : decide (((j + 1 : Nat) : Int) < (sn : Int)) = false := decide_eq_false (by omega)
      have hrt : r.take j = r := List.take_of_length_le (by simp only [List.length_cons] at hlen; omega)
      rw [hrt] at hdy0
      have h2k := hK.keep σ.next _ (by omega) (sub_push hWs _ _ _ h2)
      have h2kl := hK.wf.lt h2k
      simp -implicitDefEqProofs (maxDischargeDepth := 15) only [↓reduceIte, Yr, Ys, Yt, Wa, Wh, Wi, Wj, Wk, Wl, Wo, Wp, Wq, Ws, Wt, opA, Wv, Wx, Wy, Wz, Va, Za, Zb, Zd, Ze, Vb, Vc, Ve, AV.cells, Vk, partA, Zf, Zg, Nat.reduceAdd, Zj, Zk, Zm, Zn, Zo, Zp, Zs, Zt, binA, putL, allOne, Zu, Zv, AV.one, Zy, and_self, EndOk, resultA, oneOf, eq_self, c1, hg8, h2k]
      refine ⟨_, rfl, DAtL.sub (fun j b q => ?_) _ _ hdy0, ?_⟩
      · obtain ⟨h1, h2, h3⟩ := but_some q
        refine newer_mk (by omega) ?_
        rw [Vl (by omega)]; exact h2
      · refine (Grow.mk (Nat.le_trans hG3.le hK.le) (fun i b e => hK.keep i b (by have := hW.lt e; omega) (hG3.sub i b e)) hK.wf).set hW (Nat.le_refl _) h2kl _
set_option maxHeartbeats 4000000 in
theorem builtN_ok {σ : AState} {o : Option (Nat × Nat)} {n : Nat} {c : Option Nat} {z : Nat} {l : List Nat} (hB : Bys σ.get o n z l) (hx : ∀ x ∈ l, x < 256) :
    RunF RR Tryz.prog n_law30_Built [.slice o n c z] σ (fun u σ' => ∃ xs, u = .agg xs ∧ DAtL (newer σ σ') (built l).dv xs ∧ Grow σ σ') := by
  refine RunV.wf fun hW => ?_
  refine runF_intro hmx rf_law30_Built ?_
  have hlen := hB.len
  have hW1 := hW.push (.cells [.int .u8 0, .str [], nilA, nilA] true)
  have hB1 := hB.sub (sub_push hW (.cells [.int .u8 0, .str [], nilA, nilA] true))
  simp -implicitDefEqProofs (maxDischargeDepth := 15) only [Yr, Ys, Yt, Wj, Wk, Wm, Wo, opA, Ww, Wz, Za, Zb, List.replicate, Zc, Zd, Ze, Vb, Vc, Vd, Zf, Zg, Nat.reduceSub, Zk, i_law30_Built, c28_0, c28_32, c28_33, c28_34, c28_35, c28_36, c28_37, c28_38, c28_39, c28_55, c28_56, c28_57]
  have h0 : Stk σ.next (σ.push (.cells [.int .u8 0, .str [], nilA, nilA] true)) (σ.push (.cells [.int .u8 0, .str [], nilA, nilA] true)) none 0 (some 0) 0 ((l.take 0).foldl bStep []) [] :=
    ⟨Grown.nil hW1 hW1 (fun _ _ e => e) (Nat.le_refl _) _ _ _, by simp [F.dvs, DAtL], rfl, Nat.lt_succ_self _⟩
  refine wp_loop (fun ts σ' m => ∃ (k : Nat) (so : Option (Nat × Nat)) (sn : Nat) (sc : Option Nat) (sz : Nat) (cs : List AV), Stk σ.next (σ.push (.cells [.int .u8 0, .str [], nilA, nilA] true)) σ' so sn sc sz ((l.take k).foldl bStep []) cs ∧ sn ≤ k ∧ k ≤ 20 ∧ k + m = min n 20 ∧
    BLive ts (.slice o n c z) (.ptr (some (σ.next, 0))) (.slice so sn sc sz) (.int .i64 k)) (min n 20) ⟨0, none, 0, some 0, 0, [], h0, Nat.le_refl _, by omega, by omega, rfl, rfl, rfl, rfl, rfl⟩ ?_
  rintro m ts σ' ⟨k, so, sn, sc, sz, cs, hS, hsk, hk20, hkm, hLv⟩
  obtain ⟨a, rfl⟩ := hLv.open
  have hsn : (((l.take k).foldl bStep []).length) = sn := hS.len
  by_cases hlt : k < min n 20
  · obtain ⟨x, hxk, hxm⟩ := get_lt (l := l) (k := k) (by omega)
    have hx8 := hx x hxm
    obtain ⟨rfl, i, off, bs, w, rfl, hg, hbe⟩ := (hB1.sub hS.grown.keep).elem hxk
    have c1 : decide ((k : Int) < (n : Int)) = true := decide_eq_true (by omega)
    have c2 : decide ((k : Int) < 20) = true := decide_eq_true (by omega)
    have e1 : (0 : Int) ≤ (k : Int) ∧ (k : Int) < (n : Int) := by omega
    have d12 : wrapF .u8 ((x : Int).tdiv 12) = ((x / 12 : Nat) : Int) := by rw [show (12 : Int) = ((12 : Nat) : Int) from rfl, tdivN, wrap_u8 (by omega)]
    have m12 : (x : Int).tmod 12 = ((x % 12 : Nat) : Int) := tmodN x 12
    have z12 : ((12 : Int) = 0) = False := by simp
    simp -implicitDefEqProofs (maxDischargeDepth := 15) only [↓reduceIte, Yr, Ys, Yt, Yv, Yz, Wc, Wd, Wg, Wj, Wk, Wl, Wm, Wo, Wp, Wq, Ws, Wt, opA, Wv, Ww, Wx, Wy, Wz, Za, Zb, Vb, partA, binA, and_self, true_and, EndOk, resultA, oneOf, Yf, againOk, Vu, Vv, Yj, eq_self, Yp, c2, e1, hg, hbe, d12, m12, z12, Nat.mul_one]
    refine bsw hS (by omega) hx8 ?_
    intro σ'' so' sn' sc' sz' cs'
    iterate 188 intro _
    intro hS' hsn'
    simp -implicitDefEqProofs (maxDischargeDepth := 15) only [↓reduceIte, Yr, Ys, Yt, Wj, Wo, Wr, opA, Wv, Ww, Wx, Wy, Wz, Za, Zb, Vb, binA, eq_self]
    rw [wrap_i64 (n := (k : Int) + 1) (by omega)]
    refine ⟨m - 1, by omega, k + 1, so', sn', sc', sz', cs', ?_, by omega, by omega, by omega, rfl, rfl, rfl, rfl, rfl⟩
    rw [foldl_take bStep [] hxk]
    exact hS'
  · have hkk : l.take k = l.take 20 := by
      rcases Nat.lt_or_ge n 20 with q | q
      · rw [List.take_of_length_le (by omega), List.take_of_length_le (by omega)]
      · rw [show k = 20 by omega]
    rw [hkk] at hS hsn
    have hq : built l = (match (l.take 20).foldl bStep [] with | [] => F.mk 2 [] [] [] | f :: r => untils f r) := rfl
    rw [hq]
    rcases Nat.lt_or_ge k n with q | q
    · have c1 : decide ((k : Int) < (n : Int)) = true := decide_eq_true (by omega)
      have c2 : decide ((k : Int) < 20) = false := decide_eq_false (by omega)
      simp -implicitDefEqProofs (maxDischargeDepth := 15) only [↓reduceIte, Yr, Ys, Yt, Yv, Wa, Wd, Wi, Wj, Wk, Wl, Wo, Wp, Wq, Ws, Wt, opA, Wv, Ww, Wx, Wy, Wz, Za, Zb, Vb, partA, binA, EndOk, resultA, oneOf, Vu, Vv, Yj, eq_self, c1, c2]
      exact built_tail ⟨rfl, rfl, rfl, rfl, rfl⟩ hW hS (by omega)
    · have c1 : decide ((k : Int) < (n : Int)) = false := decide_eq_false (by omega)
      simp -implicitDefEqProofs (maxDischargeDepth := 15) only [↓reduceIte, Yr, Ys, Yt, Yw, Wa, Wd, Wi, Wj, Wk, Wl, Wo, Wp, Wq, Ws, Wt, opA, Wv, Ww, Wx, Wy, Wz, Za, Zb, Vb, partA, binA, EndOk, resultA, oneOf, Yd, Vu, Vv, eq_self, Vx, c1]
      exact built_tail ⟨rfl, rfl, rfl, rfl, rfl⟩ hW hS (by omega)
theorem newer_sub (σ σ' : AState) : Sub (newer σ σ') σ'.get := fun _ _ e => (newer_some e).2
theorem built_ok {σ : AState} {o : Option (Nat × Nat)} {n : Nat} {c : Option Nat} {z : Nat} {l : List Nat} (hB : Bys σ.get o n z l) (hx : ∀ x ∈ l, x < 256) :
    RunF RR Tryz.prog n_law30_Built [.slice o n c z] σ (fun u σ' => ∃ xs, u = .agg xs ∧ DAtL σ'.get (built l).dv xs ∧ Grow σ σ') :=
  (builtN_ok hB hx).mono fun _ σ' ⟨xs, h1, h2, h3⟩ => ⟨xs, h1, DAtL.sub (newer_sub σ σ') _ _ h2, h3⟩
end Go.Am
namespace Go.Am
open Go.RowKit Go.Proofs Do
set_option maxRecDepth 100000
def mdv (l : List Nat) : DV := .sl 1 l.length (l.map fun (n : Nat) => .int .i64 (n : Int))
mutual
def Do.Pf.dv : Pf → List DV
  | .mk r f n s m => .str r :: (f.dv ++ [.int .i64 (n : Int), .sl 8 s.length (Pf.dvs s), .sl 1 m.length (m.map mdv)])
def Do.Pf.dvs : List Pf → List DV
  | [] => []
  | p :: r => p.dv ++ Pf.dvs r
end
theorem Do.Pf.dv_len : ∀ p : Pf, p.dv.length = 8
  | .mk r f n s m => by simp [Pf.dv, F.dv_len]
theorem Do.Pf.dvs_get : ∀ (l : List Pf) (k : Nat) (t : Pf), l[k]? = some t → ((Pf.dvs l).drop (k * 8)).take 8 = t.dv
  | [], k, t, h => by simp at h
  | a :: r, 0, t, h => by
    simp only [List.getElem?_cons_zero, Option.some.injEq] at h; subst h
    simp only [Pf.dvs, Nat.zero_mul, List.drop_zero]
    rw [List.take_append_of_le_length (by rw [Pf.dv_len]; omega), List.take_of_length_le (by rw [Pf.dv_len]; omega)]
  | a :: r, k + 1, t, h => by
    simp only [List.getElem?_cons_succ] at h
    simp only [Pf.dvs]
    rw [show (k + 1) * 8 = a.dv.length + k * 8 by rw [Pf.dv_len]; omega, List.drop_append, List.drop_eq_nil_of_le (by omega), List.nil_append, Nat.add_sub_cancel_left]
    exact Pf.dvs_get r k t h
theorem proof_is : ∀ p : Pf, ∃ r f n s m, p = .mk r f n s m
  | .mk r f n s m => ⟨r, f, n, s, m, rfl⟩
def Ps (g : Mem) (o : Option (Nat × Nat)) (n z : Nat) (l : List Pf) : Prop := n = l.length ∧ (n = 0 ∨ z = 8) ∧ (n = 0 ∨ ∃ i off cs w xs, o = some (i, off) ∧ g i = some (.cells cs w) ∧ off + n * 8 ≤ cs.length ∧ xs = (cs.drop off).take (n * 8) ∧ DAtL g (Pf.dvs l) xs)
def Ms (g : Mem) (o : Option (Nat × Nat)) (n z : Nat) (l : List (List Nat)) : Prop := n = l.length ∧ (n = 0 ∨ z = 1) ∧ (n = 0 ∨ ∃ i off cs w xs, o = some (i, off) ∧ g i = some (.cells cs w) ∧ off + n ≤ cs.length ∧ xs = (cs.drop off).take n ∧ DAtL g (l.map mdv) xs)
def Is (g : Mem) (o : Option (Nat × Nat)) (n z : Nat) (l : List Nat) : Prop := n = l.length ∧ (n = 0 ∨ z = 1) ∧ (n = 0 ∨ ∃ i off cs w, o = some (i, off) ∧ g i = some (.cells cs w) ∧ off + n ≤ cs.length ∧ (cs.drop off).take n = l.map fun (x : Nat) => AV.int .i64 x)
theorem Ps.sub {g h : Mem} (s : Sub g h) {o : Option (Nat × Nat)} {n z : Nat} {l : List Pf} (e : Ps g o n z l) : Ps h o n z l := by
  obtain ⟨a, b, c⟩ := e
  refine ⟨a, b, c.imp_right ?_⟩
  rintro ⟨i, off, cs, w, xs, h1, h2, h3, h4, h5⟩
  exact ⟨i, off, cs, w, xs, h1, s _ _ h2, h3, h4, DAtL.sub s _ _ h5⟩
theorem Ms.sub {g h : Mem} (s : Sub g h) {o : Option (Nat × Nat)} {n z : Nat} {l : List (List Nat)} (e : Ms g o n z l) : Ms h o n z l := by
  obtain ⟨a, b, c⟩ := e
  refine ⟨a, b, c.imp_right ?_⟩
  rintro ⟨i, off, cs, w, xs, h1, h2, h3, h4, h5⟩
  exact ⟨i, off, cs, w, xs, h1, s _ _ h2, h3, h4, DAtL.sub s _ _ h5⟩
theorem Is.sub {g h : Mem} (s : Sub g h) {o : Option (Nat × Nat)} {n z : Nat} {l : List Nat} (e : Is g o n z l) : Is h o n z l := by
  obtain ⟨a, b, c⟩ := e
  refine ⟨a, b, c.imp_right ?_⟩
  rintro ⟨i, off, cs, w, h1, h2, h3, h4⟩
  exact ⟨i, off, cs, w, h1, s _ _ h2, h3, h4⟩
theorem ints_dat {g : Mem} : ∀ {l : List Nat} {xs : List AV}, DAtL g (l.map fun (n : Nat) => DV.int .i64 (n : Int)) xs ↔ xs = l.map fun (n : Nat) => AV.int .i64 (n : Int)
  | [], xs => by simp [DAtL]
  | a :: l, xs => by
    simp only [List.map_cons]
    constructor
    · intro h
      obtain ⟨v, r, rfl, hv, hr⟩ := DAtL.cons_iff.1 h
      simp only [DAt] at hv
      rw [hv, ints_dat.1 hr]
    · rintro rfl
      exact DAtL.cons_iff.2 ⟨_, _, rfl, by simp only [DAt], ints_dat.2 rfl⟩
theorem mdv_cells {g : Mem} {l : List Nat} {v : AV} (h : DAt g (mdv l) v) : ∃ o c z, v = .slice o l.length c z ∧ Is g o l.length z l := by
  obtain ⟨o, c, z, rfl, h1, h2⟩ := dat_cells h
  refine ⟨o, c, z, rfl, rfl, h1, h2.imp_right ?_⟩
  rintro ⟨i, off, cs, w, xs, rfl, h3, h4, rfl, h5⟩
  exact ⟨i, off, cs, w, rfl, h3, by simpa using h4, by have := ints_dat.1 h5; simpa using this⟩
theorem Do.Pf.cells {g : Mem} {r : Str} {op : Nat} {nm : Str} {ar : List T} {l : List F} {n : Nat} {s : List Pf} {m : List (List Nat)} {xs : List AV} (h : DAtL g (Pf.mk r (.mk op nm ar l) n s m).dv xs) :
    ∃ o1 c1 z1 o2 c2 z2 o3 c3 z3 o4 c4 z4, xs = [.str r, .int .u8 op, .str nm, .slice o1 ar.length c1 z1, .slice o2 l.length c2 z2, .int .i64 (n : Int), .slice o3 s.length c3 z3, .slice o4 m.length c4 z4] ∧
      DAtL g (F.mk op nm ar l).dv [.int .u8 op, .str nm, .slice o1 ar.length c1 z1, .slice o2 l.length c2 z2] ∧ Ps g o3 s.length z3 s ∧ Ms g o4 m.length z4 m := by
  simp only [Pf.dv] at h
  obtain ⟨v, r1, e1, hv, k1⟩ := DAtL.cons_iff.1 h
  obtain ⟨x, y, e2, hf, k2⟩ := DAtL.append_iff.1 k1
  have hf0 := hf
  obtain ⟨o1, c1, z1, o2, c2, z2, e3, _, _⟩ := F.cells hf
  obtain ⟨v1, r2, e4, hv1, k3⟩ := DAtL.cons_iff.1 k2
  obtain ⟨v2, r3, e5, hv2, k4⟩ := DAtL.cons_iff.1 k3
  obtain ⟨v3, r4, e6, hv3, k5⟩ := DAtL.cons_iff.1 k4
  have e7 := DAtL.nil_iff.1 k5
  simp only [DAt] at hv hv1
  subst e7 hv hv1
  subst e6
  subst e5
  subst e4
  subst e3
  subst e2
  subst e1
  obtain ⟨o3, c3, z3, rfl, h1, h2⟩ := dat_cells hv2
  obtain ⟨o4, c4, z4, rfl, k1, k2⟩ := dat_cells hv3
  refine ⟨o1, c1, z1, o2, c2, z2, o3, c3, z3, o4, c4, z4, rfl, hf0, ⟨rfl, h1, h2⟩, rfl, k1, k2.imp_right ?_⟩
  rintro ⟨i, off, cs, w, xs, rfl, h3, h4, rfl, h5⟩
  exact ⟨i, off, cs, w, _, rfl, h3, by simpa using h4, rfl, by simpa using h5⟩
theorem pdat {g : Mem} {r : Str} {f : F} {fs : List AV} {n : Nat} {s : List Pf} {m : List (List Nat)} {v1 v2 : AV} (hf : DAtL g f.dv fs) (h1 : DAt g (.sl 8 s.length (Pf.dvs s)) v1) (h2 : DAt g (.sl 1 m.length (m.map mdv)) v2) :
    DAtL g (Pf.mk r f n s m).dv (.str r :: (fs ++ [.int .i64 (n : Int), v1, v2])) :=
  DAtL.cons_iff.2 ⟨_, _, rfl, by simp only [DAt], DAtL.append_iff.2 ⟨_, _, rfl, hf, DAtL.cons_iff.2 ⟨_, _, rfl, by simp only [DAt], DAtL.cons_iff.2 ⟨_, _, rfl, h1, DAtL.cons_iff.2 ⟨_, _, rfl, h2, DAtL.nil_iff.2 rfl⟩⟩⟩⟩⟩
structure Stq (e : Nat) (σ0 σ : AState) (so : Option (Nat × Nat)) (n : Nat) (c : Option Nat) (z : Nat) (s : List Pf) (cs : List AV) : Prop where
  grown : Grown σ0 σ so n c z 8 cs
  dat : DAtL (but e σ so) (Pf.dvs s) cs
  len : s.length = n
  elt : e < σ0.next
theorem Stq.el {e : Nat} {σ0 σ : AState} {so : Option (Nat × Nat)} {n : Nat} {c : Option Nat} {z : Nat} {s : List Pf} {cs : List AV} (h : Stq e σ0 σ so n c z s cs) : e < σ.next := Nat.lt_of_lt_of_le h.elt h.grown.le
theorem Stq.grow {e : Nat} {σ0 σ σ' : AState} {so : Option (Nat × Nat)} {n : Nat} {c : Option Nat} {z : Nat} {s : List Pf} {cs : List AV} (h : Stq e σ0 σ so n c z s cs) (k : Grow σ σ') : Stq e σ0 σ' so n c z s cs :=
  ⟨h.grown.grow k, DAtL.sub (but_sub k.sub) _ _ h.dat, h.len, h.elt⟩
theorem Stq.push {e : Nat} {σ0 σ : AState} {so : Option (Nat × Nat)} {n : Nat} {c : Option Nat} {z : Nat} {s : List Pf} {cs : List AV} (h : Stq e σ0 σ so n c z s cs) (b : ABlk) : Stq e σ0 (σ.push b) so n c z s cs :=
  h.grow ((Grow.refl h.grown.wf).push b)
theorem pdvs_append (a b : List Pf) : Pf.dvs (a ++ b) = Pf.dvs a ++ Pf.dvs b := by
  induction a with
  | nil => rfl
  | cons x a ih => simp only [List.cons_append, Pf.dvs, ih, List.append_assoc]
theorem pdvs_one (f : Pf) : Pf.dvs [f] = f.dv := by simp [Pf.dvs]
theorem pdvs_take (s : List Pf) (k : Nat) : Pf.dvs (s.take k) = (Pf.dvs s).take (k * 8) := by
  induction s generalizing k with
  | nil => simp [Pf.dvs]
  | cons a r ih =>
    cases k with
    | zero => simp [Pf.dvs]
    | succ k =>
      simp only [List.take_succ_cons, Pf.dvs, ih]
      rw [show (k + 1) * 8 = a.dv.length + k * 8 by rw [Pf.dv_len]; omega, List.take_length_add_append]
theorem Stq.append {e : Nat} {σ0 σ : AState} {so : Option (Nat × Nat)} {n : Nat} {c : Option Nat} {z : Nat} {s : List Pf} {cs : List AV} (h : Stq e σ0 σ so n c z s cs) {f : Pf} {xs : List AV} (hd : DAtL (but e σ so) f.dv xs) (ho : allOne xs = true) (hn : n ≤ 1000000) :
    ∃ i es, appendA σ.get σ.next 8 144 (.slice so n c z) 1 xs = some (.slice (some (i, 0)) (n + 1) none 8, es) ∧ Stq e σ0 (σ.app es) (some (i, 0)) (n + 1) none 8 (s ++ [f]) (cs ++ xs) := by
  have hxl : xs.length = 8 := by rw [hd.length, Pf.dv_len]
  obtain ⟨i, es, he, hG, hle, hk⟩ := h.grown.append (bytes := 144) (by omega) hxl ho (decide_eq_true (by omega))
  refine ⟨i, es, he, hG, ?_, by simp [h.len], h.elt⟩
  have hsub : Sub (but e σ so) (but e (σ.app es) (some (i, 0))) := fun j b e => by
    obtain ⟨h1, h2, h3⟩ := but_some e
    refine but_mk ?_ (hk j b (fun i' hi' q => by subst q; exact h1 hi') h2) h3
    intro q
    cases q
    have hj := h.grown.wf.lt h2
    have hi := appendA_new he
    omega
  rw [pdvs_append, pdvs_one]
  exact DAtL.append_iff.2 ⟨cs, xs, rfl, DAtL.sub hsub _ _ h.dat, DAtL.sub hsub _ _ hd⟩
theorem Stq.elem {e : Nat} {σ0 σ : AState} {so : Option (Nat × Nat)} {n : Nat} {c : Option Nat} {z : Nat} {s : List Pf} {cs : List AV} (h : Stq e σ0 σ so n c z s cs) {k : Nat} {f : Pf} (hk : s[k]? = some f) :
    z = 8 ∧ ∃ i xs, so = some (i, 0) ∧ σ.get i = some (.cells cs true) ∧ k * 8 + 8 ≤ cs.length ∧ (cs.drop (k * 8)).take 8 = xs ∧ DAtL (but e σ so) f.dv xs := by
  have hkl : k < s.length := by
    rcases Nat.lt_or_ge k s.length with q | q
    · exact q
    · rw [List.getElem?_eq_none q] at hk; cases hk
  have hl := h.grown.len
  have hn := h.len
  rcases h.grown.at' with ⟨_, q⟩ | ⟨_, hz, i, hi, _, hg⟩
  · omega
  · refine ⟨hz, i, _, hi, hg, by omega, rfl, ?_⟩
    have := (h.dat.drop (k * 8)).take 8
    rw [Pf.dvs_get s k f hk] at this
    exact this
theorem Stq.appendTake {e : Nat} {σ0 σ : AState} {so : Option (Nat × Nat)} {n : Nat} {c : Option Nat} {z : Nat} {s : List Pf} {cs : List AV} (h : Stq e σ0 σ so n c z s cs) {i k : Nat} (hso : so = some (i, 0)) (hk : k ≤ n) {f : Pf} {xs : List AV} (hd : DAtL (but e σ so) f.dv xs) (hn : n ≤ 1000000) :
    appendA σ.get σ.next 8 144 (.slice so k (some k) 8) 1 xs = some (.slice (some (σ.next, 0)) (k + 1) none 8, [.push (.cells (cs.take (k * 8) ++ xs) true)]) ∧
    Stq e σ0 (σ.push (.cells (cs.take (k * 8) ++ xs) true)) (some (σ.next, 0)) (k + 1) none 8 (s.take k ++ [f]) (cs.take (k * 8) ++ xs) := by
  subst hso
  have hxl : xs.length = 8 := by rw [hd.length, Pf.dv_len]
  have hl := h.grown.len
  rcases h.grown.at' with ⟨q, _⟩ | ⟨_, hz, i', hi, hge, hg⟩
  · cases q
  cases hi
  have hgr : grows (k + 1) 144 = true := decide_eq_true (by omega)
  constructor
  · have h1 : ¬ (k + 1 ≤ k) := by omega
    have h2 : k * 8 ≤ cs.length := by omega
    simp [appendA, hg, hgr, h2]
  · have hlen : (cs.take (k * 8) ++ xs).length = (k + 1) * 8 := by rw [List.length_append, List.length_take, hxl]; omega
    refine ⟨⟨h.grown.wf0, h.grown.wf.push _, fun j b e => sub_push h.grown.wf _ j b (h.grown.keep j b e), Nat.le_succ_of_le h.grown.le, hlen, .inr ⟨rfl, rfl, σ.next, rfl, h.grown.le, Vg⟩⟩, ?_, by have := h.len; simp; omega, h.elt⟩
    have hsub : Sub (but e σ (some (i, 0))) (but e (σ.push (.cells (cs.take (k * 8) ++ xs) true)) (some (σ.next, 0))) := fun j b e => by
      obtain ⟨h1, h2, h3⟩ := but_some e
      refine but_mk ?_ (sub_push h.grown.wf _ j b h2) h3
      intro q; cases q
      have := h.grown.wf.lt h2; omega
    rw [pdvs_append, pdvs_one, pdvs_take]
    exact DAtL.append_iff.2 ⟨_, xs, rfl, DAtL.sub hsub _ _ (h.dat.take _), DAtL.sub hsub _ _ hd⟩
end Go.Am
namespace Go.Am
open Go.RowKit Go.Proofs Do
set_option maxRecDepth 100000
theorem leaf_ok (σ : AState) (n : Int) (op : Int) (nm : Str) (o1 : Option (Nat × Nat)) (n1 : Nat) (c1 : Option Nat) (z1 : Nat) (o2 : Option (Nat × Nat)) (n2 : Nat) (c2 : Option Nat) (z2 : Nat) : RunF RR Tryz.prog n_law41_leaf [.int .i64 n, .agg [.int .u8 op, .str nm, .slice o1 n1 c1 z1, .slice o2 n2 c2 z2]] σ
    (fun u σ' => u = .agg [.str [], .int .u8 op, .str nm, .slice o1 n1 c1 z1, .slice o2 n2 c2 z2, .int .i64 n, nilA, nilA] ∧ σ' = (σ.push (.cells [.int .u8 op, .str nm, .slice o1 n1 c1 z1, .slice o2 n2 c2 z2] true)).push (.cells [.str [], .int .u8 op, .str nm, .slice o1 n1 c1 z1, .slice o2 n2 c2 z2, .int .i64 n, nilA, nilA] true)) := by
  refine runF_intro hmx rf_law41_leaf ?_
  simp -implicitDefEqProofs (maxDischargeDepth := 15) only [↓reduceIte, Yr, Ys, Yt, Wh, Wj, Wk, Wo, opA, Wv, Wx, Wy, Wz, Va, Za, Zb, List.replicate, Zc, Zd, Ze, Vb, Vc, Vd, Ve, AV.cells, Vg, Vh, Vi, Vn, partA, Zf, Zg, Zh, Zi, Nat.reduceAdd, Nat.reduceLeDiff, Nat.reduceSub, Zj, Zk, Zm, Zn, Zo, Zp, Zs, Zt, fillA, putL, allOne, Zu, Zv, AV.one, Zy, and_self, EndOk, resultA, oneOf, eq_self, i_law41_leaf, c71_0, c71_1]
structure PLive (ts : List AV) (v0 v2 v3 v4 v5 v6 v7 v8 v9 v10 v11 v12 : AV) : Prop where
  len : ts.length = 146
  t0 : ts.getD 0 U = v0
  t2 : ts.getD 2 U = v2
  t3 : ts.getD 3 U = v3
  t4 : ts.getD 4 U = v4
  t5 : ts.getD 5 U = v5
  t6 : ts.getD 6 U = v6
  t7 : ts.getD 7 U = v7
  t8 : ts.getD 8 U = v8
  t9 : ts.getD 9 U = v9
  t10 : ts.getD 10 U = v10
  t11 : ts.getD 11 U = v11
  t12 : ts.getD 12 U = v12
theorem PLive.open {ts : List AV} {v0 v2 v3 v4 v5 v6 v7 v8 v9 v10 v11 v12 : AV} (h : PLive ts v0 v2 v3 v4 v5 v6 v7 v8 v9 v10 v11 v12) : ∃ a : Nat → AV, ts = [v0, a 1, v2, v3, v4, v5, v6, v7, v8, v9, v10, v11, v12, a 13, a 14, a 15, a 16, a 17, a 18, a 19, a 20, a 21, a 22, a 23, a 24, a 25, a 26, a 27, a 28, a 29, a 30, a 31, a 32, a 33, a 34, a 35, a 36, a 37, a 38, a 39, a 40, a 41, a 42, a 43, a 44, a 45, a 46, a 47, a 48, a 49, a 50, a 51, a 52, a 53, a 54, a 55, a 56, a 57, a 58, a 59, a 60, a 61, a 62, a 63, a 64, a 65, a 66, a 67, a 68, a 69, a 70, a 71, a 72, a 73, a 74, a 75, a 76, a 77, a 78, a 79, a 80, a 81, a 82, a 83, a 84, a 85, a 86, a 87, a 88, a 89, a 90, a 91, a 92, a 93, a 94, a 95, a 96, a 97, a 98, a 99, a 100, a 101, a 102, a 103, a 104, a 105, a 106, a 107, a 108, a 109, a 110, a 111, a 112, a 113, a 114, a 115, a 116, a 117, a 118, a 119, a 120, a 121, a 122, a 123, a 124, a 125, a 126, a 127, a 128, a 129, a 130, a 131, a 132, a 133, a 134, a 135, a 136, a 137, a 138, a 139, a 140, a 141, a 142, a 143, a 144, a 145] := by
  have h1 := list_range h.len
  refine ⟨fun i => ts.getD i U, ?_⟩
  rw [← h.t0, ← h.t2, ← h.t3, ← h.t4, ← h.t5, ← h.t6, ← h.t7, ← h.t8, ← h.t9, ← h.t10, ← h.t11, ← h.t12]
  exact h1
theorem grown_dat {σ0 σ : AState} {o : Option (Nat × Nat)} {n : Nat} {c : Option Nat} {z sz : Nat} {cs : List AV} (h : Grown σ0 σ o n c z sz cs) {g : Mem} (hg : ∀ i b, σ0.next ≤ i → o = some (i, 0) → σ.get i = some b → g i = some b) {ds : List DV} (hd : DAtL g ds cs) : DAt g (.sl sz n ds) (.slice o n c z) := by
  rcases h.at' with ⟨rfl, rfl⟩ | ⟨rfl, rfl, i, rfl, hi, hgi⟩
  · rw [DAt]; exact ⟨none, c, z, rfl, .inl rfl, .inl rfl, fun _ => rfl⟩
  · exact dat_sl none (hg i _ hi rfl hgi) h.len hd
theorem Grown.kept {σ0 σ : AState} {o : Option (Nat × Nat)} {n : Nat} {c : Option Nat} {z sz bytes : Nat} {cs xs : List AV} (h : Grown σ0 σ o n c z sz cs) (hsz : 0 < sz) (hx : xs.length = sz) (ho : allOne xs = true) (hg : grows (n + 1) bytes = true) :
    ∃ es, appendA σ.get σ.next sz bytes (.slice o n c z) 1 xs = some (.slice (some (σ.next, 0)) (n + 1) none sz, es) ∧ Grown σ0 (σ.app es) (some (σ.next, 0)) (n + 1) none sz sz (cs ++ xs) ∧ Kept (fun j => o = some (j, 0)) σ (σ.app es) := by
  obtain ⟨i, es, he, hG, hle, hk⟩ := h.append hsz hx ho hg
  have hi : i = σ.next := appendA_new he
  subst hi
  exact ⟨es, he, hG, hle, fun j b hj e => hk j b (fun i hi q => hj (by rw [q]; exact hi)) e, hG.wf⟩
theorem pMarks_get {x k j : Nat} (h : j < (x + k) % 4) : (pMarks x k)[j]? = some ((x * j * 7 + k) % 1000) := by
  unfold pMarks
  rw [List.getElem?_map, List.getElem?_range h]; rfl
theorem pMarks_len (x k : Nat) : (pMarks x k).length = (x + k) % 4 := by simp [pMarks]
theorem pmarks_ok {x k : Nat} (hx : x < 256) (hk : k < 5) {v0 v2 v3 v4 v5 v7 v8 v9 : AV} {σ : AState} (hW : σ.Wf) {ts : List AV} (hL : PLive ts v0 v2 v3 v4 v5 (.int .u8 x) v7 v8 v9 (.int .i64 k) nilA (.int .i64 0)) {Q : Ex → List AV → AState → Prop}
    (hQ : ∀ (ts : List AV) (σ' : AState) (o : Option (Nat × Nat)) (c : Option Nat) (z : Nat), PLive ts v0 v2 v3 v4 v5 (.int .u8 x) v7 v8 v9 (.int .i64 k) (.slice o (pMarks x k).length c z) (.int .i64 (pMarks x k).length) → Grow σ σ' → DAt (newer σ σ') (mdv (pMarks x k)) (.slice o (pMarks x k).length c z) → Q (.exit 5) ts σ') :
    wpC RR Tryz.prog c57_11 ts σ Q := by
  have hm4 : ((x : Int) + (k : Int)).tmod 4 = (((x + k) % 4 : Nat) : Int) := by rw [show (x : Int) + (k : Int) = ((x + k : Nat) : Int) by omega]; exact tmodN _ 4
  have w1 : wrapF .i64 (x : Int) = (x : Int) := wrap_i64 (by omega)
  have w2 : wrapF .i64 ((x : Int) + (k : Int)) = (x : Int) + (k : Int) := wrap_i64 (by omega)
  have z4 : ((4 : Int) = 0) = False := by simp
  show wpC RR Tryz.prog (.loop c57_10) _ _ _
  refine wp_loopK (fun ts σ' m => ∃ (j : Nat) (o : Option (Nat × Nat)) (c : Option Nat) (z : Nat), Grown σ σ' o j c z 1 (((pMarks x k).take j).map fun (n : Nat) => AV.int .i64 (n : Int)) ∧ j + m = (x + k) % 4 ∧ PLive ts v0 v2 v3 v4 v5 (.int .u8 x) v7 v8 v9 (.int .i64 k) (.slice o j c z) (.int .i64 j)) ((x + k) % 4)
    ⟨0, none, some 0, 0, Grown.nil hW hW (fun _ _ e => e) (Nat.le_refl _) _ _ _, by omega, hL⟩ ?_
  rintro m ts σ' ⟨j, o, c, z, hG, hjm, hL⟩
  obtain ⟨a, rfl⟩ := hL.open
  have hm := Nat.mod_lt (x + k) (show 0 < 4 by omega)
  by_cases hlt : j < (x + k) % 4
  · have d1 : decide ((j : Int) < (((x + k) % 4 : Nat) : Int)) = true := decide_eq_true (by omega)
    have hxj : x * j ≤ 255 * 3 := Nat.mul_le_mul (by omega) (by omega)
    have w3 : wrapF .i64 ((x : Int) * (j : Int)) = ((x * j : Nat) : Int) := by rw [show (x : Int) * (j : Int) = ((x * j : Nat) : Int) by simp]; exact wrap_i64 (by omega)
    have w4 : wrapF .i64 (((x * j : Nat) : Int) * 7) = ((x * j * 7 : Nat) : Int) := by rw [show ((x * j : Nat) : Int) * 7 = ((x * j * 7 : Nat) : Int) by simp]; exact wrap_i64 (by omega)
    have w5 : wrapF .i64 (((x * j * 7 : Nat) : Int) + (k : Int)) = ((x * j * 7 + k : Nat) : Int) := by rw [wrap_i64 (by omega)]; omega
    have m1000 : ((x * j * 7 + k : Nat) : Int).tmod 1000 = (((x * j * 7 + k) % 1000 : Nat) : Int) := tmodN _ 1000
    have z1000 : ((1000 : Int) = 0) = False := by simp
    have w6 : wrapF .i64 ((j : Int) + 1) = ((j + 1 : Nat) : Int) := by rw [wrap_i64 (by omega)]; rfl
    have hG2 := hG.push (.cells [.int .i64 (((x * j * 7 + k) % 1000 : Nat) : Int)] true)
    obtain ⟨es, he, hG3, _⟩ := hG2.kept (bytes := 8) (xs := [.int .i64 (((x * j * 7 + k) % 1000 : Nat) : Int)]) (by omega) rfl rfl (decide_eq_true (by omega))
    simp -implicitDefEqProofs (maxDischargeDepth := 15) only [↓reduceIte, Yr, Ys, Yt, Yz, Wg, Wj, Wk, Wl, Wm, Wo, Wr, opA, Wv, Ww, Wx, Wy, Wz, Za, Zb, Zd, Ze, Vb, Vc, Vd, AV.cells, Vg, Zf, Zg, Zh, Zi, Zj, Zk, Zm, Zn, Zo, Zp, Zs, Zt, binA, fillA, and_self, lenA, firstA, eq_self, c57_6, c57_7, c57_8, c57_9, c57_10, hm4, w1, w2, z4, d1, w3, w4, w5, m1000, z1000, he, w6, lk_n]
    refine ⟨m - 1, by omega, j + 1, _, _, _, ?_, by omega, rfl, rfl, rfl, rfl, rfl, rfl, rfl, rfl, rfl, rfl, rfl, rfl, rfl⟩
    have : ((pMarks x k).take (j + 1)).map (fun (n : Nat) => AV.int .i64 (n : Int)) = ((pMarks x k).take j).map (fun (n : Nat) => AV.int .i64 (n : Int)) ++ [.int .i64 (((x * j * 7 + k) % 1000 : Nat) : Int)] := by
      rw [List.take_add_one, pMarks_get hlt]; simp
    rw [this]
    exact hG3
  · have d1 : decide ((j : Int) < (((x + k) % 4 : Nat) : Int)) = false := decide_eq_false (by omega)
    have hj : j = (pMarks x k).length := by rw [pMarks_len]; omega
    simp -implicitDefEqProofs (maxDischargeDepth := 15) only [↓reduceIte, Yr, Ys, Yt, Wa, Wi, Wj, Wk, Wl, Wo, Wp, opA, Wv, Ww, Wx, Wy, Wz, Za, Zb, Vb, binA, eq_self, c57_6, c57_7, c57_8, c57_9, c57_10, hm4, w1, w2, z4, d1, lk_e]
    rw [hj, List.take_length] at hG
    refine hQ _ σ' o c z ⟨rfl, rfl, rfl, rfl, rfl, rfl, rfl, rfl, rfl, rfl, rfl, by rw [hj]; rfl, by rw [hj]; rfl⟩ ⟨hG.le, hG.keep, hG.wf⟩ ?_
    exact grown_dat hG (fun i b hi _ e => newer_mk hi e) (ints_dat.2 rfl)
end Go.Am
