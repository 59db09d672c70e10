/-
  A PART of the proof: OrShelf, OrAwake, OrW8, OrW9, OrW10, OrW11, OrW12, OrW13, OrW14, OrW15, OrW16, OrW17, OrW18.
-/
import Derived.Room.Shelf.Join48
import Derived.Shelf.Strings.Cut
import Derived.Shelf.Strings.Search3
import Derived.WalkSmall
import Derived.Test.YtnpfcgeikgbkbaaGreatDoorT02
import Derived.Test.YtnpfcgeikgbkbaaGreatDoorT05
set_option linter.unusedSimpArgs false
set_option linter.unusedVariables false
namespace Go.Proofs
open Go.Shelf
def Tryz.lays156_ren : Go.Shelf.Ren := ⟨fun | 156 => 32 | 165 => 55 | 166 => 56 | 169 => 57 | 240 => 96 | 241 => 97 | 276 => 133 | 277 => 134 | n => n, fun | 31 => 33 | 9 => 9 | 3 => 3 | 4 => 4 | 0 => 0 | 20 => 20 | 72 => 116 | 76 => 48 | 70 => 114 | 37 => 22 | 75 => 47 | 127 => 149 | 164 => 186 | 5 => 5 | 80 => 118 | n => n, fun | n => n⟩
theorem Tryz.lays156 : Go.Proofs.Lays.n156 Tryz.prog Tryz.lays156_ren := {
  mixed := by kernel_rfl
  f156 := Tryz.func32.trans (congrArg some (by kernel_rfl))
  f165 := Tryz.func55.trans (congrArg some (by kernel_rfl))
  f166 := Tryz.func56.trans (congrArg some (by kernel_rfl))
  f169 := Tryz.func57.trans (congrArg some (by kernel_rfl))
  f240 := Tryz.func96.trans (congrArg some (by kernel_rfl))
  f241 := Tryz.func97.trans (congrArg some (by kernel_rfl))
  f276 := Tryz.func133.trans (congrArg some (by kernel_rfl))
  f277 := Tryz.func134.trans (congrArg some (by kernel_rfl))
  t0 := Tryz.underlying0
  a0 := Tryz.isAgg0
  z0 := Tryz.sizeOf0
  v0 := Tryz.zeroValue0
  t3 := Tryz.underlying3
  a3 := Tryz.isAgg3
  z3 := Tryz.sizeOf3
  v3 := Tryz.zeroValue3
  t4 := Tryz.underlying4
  a4 := Tryz.isAgg4
  z4 := Tryz.sizeOf4
  v4 := Tryz.zeroValue4
  t9 := Tryz.underlying9
  a9 := Tryz.isAgg9
  z9 := Tryz.sizeOf9
  v9 := Tryz.zeroValue9
  t20 := Tryz.underlying20
  a20 := Tryz.isAgg20
  z20 := Tryz.sizeOf20
  v20 := Tryz.zeroValue20
  t31 := Tryz.underlying33
  a31 := Tryz.isAgg33
  z31 := Tryz.sizeOf33
  v31 := Tryz.zeroValue33
  t37 := Tryz.underlying22
  a37 := Tryz.isAgg22
  z37 := Tryz.sizeOf22
  v37 := Tryz.zeroValue22
  t70 := Tryz.underlying114
  a70 := Tryz.isAgg114
  z70 := Tryz.sizeOf114
  v70 := Tryz.zeroValue114
  t72 := Tryz.underlying116
  a72 := Tryz.isAgg116
  z72 := Tryz.sizeOf116
  v72 := Tryz.zeroValue116
  t75 := Tryz.underlying47
  a75 := Tryz.isAgg47
  z75 := Tryz.sizeOf47
  v75 := Tryz.zeroValue47
  t76 := Tryz.underlying48
  a76 := Tryz.isAgg48
  z76 := Tryz.sizeOf48
  v76 := Tryz.zeroValue48
  t127 := Tryz.underlying149
  a127 := Tryz.isAgg149
  z127 := Tryz.sizeOf149
  v127 := Tryz.zeroValue149
  t164 := Tryz.underlying186
  a164 := Tryz.isAgg186
  z164 := Tryz.sizeOf186
  v164 := Tryz.zeroValue186 }
def Tryz.lays145_ren : Go.Shelf.Ren := ⟨fun | 145 => 10 | 220 => 36 | 219 => 62 | 217 => 111 | 225 => 112 | 224 => 113 | 267 => 114 | 266 => 150 | 314 => 151 | n => n, fun | 9 => 9 | 4 => 4 | 59 => 43 | 3 => 3 | 5 => 5 | 46 => 167 | 146 => 203 | 51 => 101 | n => n, fun | 1 => 0 | n => n⟩
theorem Tryz.lays145 : Go.Proofs.Lays.n145 Tryz.prog Tryz.lays145_ren := {
  mixed := by kernel_rfl
  f145 := Tryz.func10.trans (congrArg some (by kernel_rfl))
  f217 := Tryz.func111.trans (congrArg some (by kernel_rfl))
  f219 := Tryz.func62.trans (congrArg some (by kernel_rfl))
  f220 := Tryz.func36.trans (congrArg some (by kernel_rfl))
  f224 := Tryz.func113.trans (congrArg some (by kernel_rfl))
  f225 := Tryz.func112.trans (congrArg some (by kernel_rfl))
  f266 := Tryz.func150.trans (congrArg some (by kernel_rfl))
  f267 := Tryz.func114.trans (congrArg some (by kernel_rfl))
  f314 := Tryz.func151.trans (congrArg some (by kernel_rfl))
  t3 := Tryz.underlying3
  a3 := Tryz.isAgg3
  z3 := Tryz.sizeOf3
  v3 := Tryz.zeroValue3
  t4 := Tryz.underlying4
  a4 := Tryz.isAgg4
  z4 := Tryz.sizeOf4
  v4 := Tryz.zeroValue4
  t5 := Tryz.underlying5
  a5 := Tryz.isAgg5
  z5 := Tryz.sizeOf5
  v5 := Tryz.zeroValue5
  t9 := Tryz.underlying9
  a9 := Tryz.isAgg9
  z9 := Tryz.sizeOf9
  v9 := Tryz.zeroValue9
  t46 := Tryz.underlying167
  a46 := Tryz.isAgg167
  z46 := Tryz.sizeOf167
  v46 := Tryz.zeroValue167
  t51 := Tryz.underlying101
  a51 := Tryz.isAgg101
  z51 := Tryz.sizeOf101
  v51 := Tryz.zeroValue101
  t59 := Tryz.underlying43
  a59 := Tryz.isAgg43
  z59 := Tryz.sizeOf43
  v59 := Tryz.zeroValue43
  t146 := Tryz.underlying203
  a146 := Tryz.isAgg203
  z146 := Tryz.sizeOf203
  v146 := Tryz.zeroValue203
  g1 := by kernel_rfl }
def Tryz.lays143_ren : Go.Shelf.Ren := ⟨fun | 143 => 40 | 219 => 62 | 217 => 111 | 225 => 112 | 224 => 113 | 267 => 114 | 266 => 150 | 314 => 151 | n => n, fun | 9 => 9 | 3 => 3 | 4 => 4 | 5 => 5 | 46 => 167 | 146 => 203 | 51 => 101 | n => n, fun | 1 => 0 | n => n⟩
theorem Tryz.lays143 : Go.Proofs.Lays.n143 Tryz.prog Tryz.lays143_ren := {
  mixed := by kernel_rfl
  f143 := Tryz.func40.trans (congrArg some (by kernel_rfl))
  f217 := Tryz.func111.trans (congrArg some (by kernel_rfl))
  f219 := Tryz.func62.trans (congrArg some (by kernel_rfl))
  f224 := Tryz.func113.trans (congrArg some (by kernel_rfl))
  f225 := Tryz.func112.trans (congrArg some (by kernel_rfl))
  f266 := Tryz.func150.trans (congrArg some (by kernel_rfl))
  f267 := Tryz.func114.trans (congrArg some (by kernel_rfl))
  f314 := Tryz.func151.trans (congrArg some (by kernel_rfl))
  t3 := Tryz.underlying3
  a3 := Tryz.isAgg3
  z3 := Tryz.sizeOf3
  v3 := Tryz.zeroValue3
  t4 := Tryz.underlying4
  a4 := Tryz.isAgg4
  z4 := Tryz.sizeOf4
  v4 := Tryz.zeroValue4
  t5 := Tryz.underlying5
  a5 := Tryz.isAgg5
  z5 := Tryz.sizeOf5
  v5 := Tryz.zeroValue5
  t9 := Tryz.underlying9
  a9 := Tryz.isAgg9
  z9 := Tryz.sizeOf9
  v9 := Tryz.zeroValue9
  t46 := Tryz.underlying167
  a46 := Tryz.isAgg167
  z46 := Tryz.sizeOf167
  v46 := Tryz.zeroValue167
  t51 := Tryz.underlying101
  a51 := Tryz.isAgg101
  z51 := Tryz.sizeOf101
  v51 := Tryz.zeroValue101
  t146 := Tryz.underlying203
  a146 := Tryz.isAgg203
  z146 := Tryz.sizeOf203
  v146 := Tryz.zeroValue203
  g1 := by kernel_rfl }
def Tryz.lays144_ren : Go.Shelf.Ren := ⟨fun | 144 => 13 | 143 => 40 | 219 => 62 | 217 => 111 | 225 => 112 | 224 => 113 | 267 => 114 | 266 => 150 | 314 => 151 | n => n, fun | 9 => 9 | 4 => 4 | 3 => 3 | 5 => 5 | 46 => 167 | 146 => 203 | 51 => 101 | n => n, fun | 1 => 0 | n => n⟩
theorem Tryz.lays144 : Go.Proofs.Lays.n144 Tryz.prog Tryz.lays144_ren := {
  mixed := by kernel_rfl
  f143 := Tryz.func40.trans (congrArg some (by kernel_rfl))
  f144 := Tryz.func13.trans (congrArg some (by kernel_rfl))
  f217 := Tryz.func111.trans (congrArg some (by kernel_rfl))
  f219 := Tryz.func62.trans (congrArg some (by kernel_rfl))
  f224 := Tryz.func113.trans (congrArg some (by kernel_rfl))
  f225 := Tryz.func112.trans (congrArg some (by kernel_rfl))
  f266 := Tryz.func150.trans (congrArg some (by kernel_rfl))
  f267 := Tryz.func114.trans (congrArg some (by kernel_rfl))
  f314 := Tryz.func151.trans (congrArg some (by kernel_rfl))
  t3 := Tryz.underlying3
  a3 := Tryz.isAgg3
  z3 := Tryz.sizeOf3
  v3 := Tryz.zeroValue3
  t4 := Tryz.underlying4
  a4 := Tryz.isAgg4
  z4 := Tryz.sizeOf4
  v4 := Tryz.zeroValue4
  t5 := Tryz.underlying5
  a5 := Tryz.isAgg5
  z5 := Tryz.sizeOf5
  v5 := Tryz.zeroValue5
  t9 := Tryz.underlying9
  a9 := Tryz.isAgg9
  z9 := Tryz.sizeOf9
  v9 := Tryz.zeroValue9
  t46 := Tryz.underlying167
  a46 := Tryz.isAgg167
  z46 := Tryz.sizeOf167
  v46 := Tryz.zeroValue167
  t51 := Tryz.underlying101
  a51 := Tryz.isAgg101
  z51 := Tryz.sizeOf101
  v51 := Tryz.zeroValue101
  t146 := Tryz.underlying203
  a146 := Tryz.isAgg203
  z146 := Tryz.sizeOf203
  v146 := Tryz.zeroValue203
  g1 := by kernel_rfl }
theorem Tryz.Builder_Extra_156 : Builder.Extra Tryz.prog Tryz.lays156_ren := {
  sizeBuilder := by kernel_rfl
  liesBuilder := by kernel_rfl
  t5 := Tryz.underlying5
  a5 := Tryz.isAgg5
  z5 := Tryz.sizeOf5
  v5 := Tryz.zeroValue5
  infoByte := by kernel_rfl
  cellsByte := by kernel_rfl
  sizeByte := by kernel_rfl
  neB5 := by decide }
theorem Tryz.joinOk : Go.Am.JoinOk Tryz.prog 32 where
  fn := ⟨_, Tryz.func32, by kernel_rfl, by kernel_rfl⟩
  zero a c sep w := Any.strings_Join_none Tryz.lays156 Tryz.Builder_Extra_156 a c sep w
  many bk o c xs sep w h1 h2 h3 h4 h5 := Any.strings_Join_48 Tryz.lays156 Tryz.Builder_Extra_156 bk o c xs sep w h1 h2 h3 h4 h5
theorem Tryz.countOk : Go.Am.ExternOk Tryz.prog 117 Extern.BytealgCount.count where
  fn := ⟨_, Tryz.func117, by kernel_rfl, by kernel_rfl, by kernel_rfl, by kernel_rfl⟩
theorem Tryz.indexOk : Go.Am.ExternOk Tryz.prog 150 Extern.BytealgIndexByte.indexByte where
  fn := ⟨_, Tryz.func150, by kernel_rfl, by kernel_rfl, by kernel_rfl, by kernel_rfl⟩
end Go.Proofs
namespace Go.Am
open Go.RowKit Go.Proofs Go.Shelf
theorem cut_calls {Rs : Code → AC → Prop} {σ : AState} {m : Int} (hg : σ.get 0 = some (.cells [.int .i64 m] false)) (s sep : List UInt8) (hs : s.length < 4294967281) :
    RunF Rs Tryz.prog 10 [.str s, .str sep] σ (fun u σ' => u = .tuple [.str (Lib.cut s sep).1, .str (Lib.cut s sep).2.1, .bool (Lib.cut s sep).2.2] ∧ σ' = σ) := by
  refine RunF.of_calls Tryz.func10 (by kernel_rfl) (by kernel_rfl) fun w0 ρ D cargs w ha hS => ?_
  obtain ⟨v1, r1, e1, q1, ha⟩ := VRelL.cons_iff.1 ha
  obtain ⟨v2, r2, e2, q2, ha⟩ := VRelL.cons_iff.1 ha
  have e3 := VRelL.nil_iff.1 ha
  subst e3; subst e2
  have hc : cargs = #[v1, v2] := Array.ext' (by simpa using e1)
  subst hc
  simp only [VRel] at q1 q2
  obtain ⟨b1, rfl, rfl⟩ := q1
  obtain ⟨b2, rfl, rfl⟩ := q2
  obtain ⟨l, hl, hb, ho⟩ := hS.glob 0 (of_decide_eq_true (by kernel_rfl))
  obtain ⟨_, hcell, _⟩ := hS.blk 0 _ l hg hl
  obtain ⟨y, hy, hv⟩ := hcell 0 _ rfl
  simp only [VRel] at hv
  subst hv
  rw [hb, ho] at hy
  refine (Any.strings_Cut Tryz.lays145 b1 b2 m w (by simpa using hs) hy).mono ?_
  rintro e w' ⟨rfl, n, rfl⟩
  refine ⟨_, _, rfl, ⟨rfl, rfl⟩, ?_, below_drewN (Below.refl _ _) n⟩
  exact VRel.tuple (.mk_cons VRel.str (.mk_cons VRel.str (.mk_cons VRel.bool .mk_nil)))
end Go.Am
namespace Go.Am
open Go.RowKit Go.Proofs Go.Shelf
theorem index_calls {Rs : Code → AC → Prop} {σ : AState} {m : Int} (hg : σ.get 0 = some (.cells [.int .i64 m] false)) (s sep : List UInt8) (hs : s.length < 4294967281) :
    RunF Rs Tryz.prog 40 [.str s, .str sep] σ (fun u σ' => u = .int .i64 (Lib.index s sep) ∧ σ' = σ) := by
  refine RunF.of_calls Tryz.func40 (by kernel_rfl) (by kernel_rfl) fun w0 ρ D cargs w ha hS => ?_
  obtain ⟨v1, r1, e1, q1, ha⟩ := VRelL.cons_iff.1 ha
  obtain ⟨v2, r2, e2, q2, ha⟩ := VRelL.cons_iff.1 ha
  have e3 := VRelL.nil_iff.1 ha
  subst e3; subst e2
  have hc : cargs = #[v1, v2] := Array.ext' (by simpa using e1)
  subst hc
  simp only [VRel] at q1 q2
  obtain ⟨b1, rfl, rfl⟩ := q1
  obtain ⟨b2, rfl, rfl⟩ := q2
  obtain ⟨l, hl, hb, ho⟩ := hS.glob 0 (of_decide_eq_true (by kernel_rfl))
  obtain ⟨_, hcell, _⟩ := hS.blk 0 _ l hg hl
  obtain ⟨y, hy, hv⟩ := hcell 0 _ rfl
  simp only [VRel] at hv
  subst hv
  rw [hb, ho] at hy
  refine (Any.strings_Index Tryz.lays143 b1 b2 m w (by simpa using hs) hy).mono ?_
  rintro e w' ⟨rfl, rfl⟩
  exact ⟨_, _, rfl, ⟨rfl, rfl⟩, VRel.int, Below.refl _ _⟩
end Go.Am
namespace Go.Am
open Go.RowKit Go.Proofs Go.Shelf
theorem contains_calls {Rs : Code → AC → Prop} {σ : AState} {m : Int} (hg : σ.get 0 = some (.cells [.int .i64 m] false)) (s sep : List UInt8) (hs : s.length < 4294967281) :
    RunF Rs Tryz.prog 13 [.str s, .str sep] σ (fun u σ' => u = .bool (Lib.contains s sep) ∧ σ' = σ) := by
  refine RunF.of_calls Tryz.func13 (by kernel_rfl) (by kernel_rfl) fun w0 ρ D cargs w ha hS => ?_
  obtain ⟨v1, r1, e1, q1, ha⟩ := VRelL.cons_iff.1 ha
  obtain ⟨v2, r2, e2, q2, ha⟩ := VRelL.cons_iff.1 ha
  have e3 := VRelL.nil_iff.1 ha
  subst e3; subst e2
  have hc : cargs = #[v1, v2] := Array.ext' (by simpa using e1)
  subst hc
  simp only [VRel] at q1 q2
  obtain ⟨b1, rfl, rfl⟩ := q1
  obtain ⟨b2, rfl, rfl⟩ := q2
  obtain ⟨l, hl, hb, ho⟩ := hS.glob 0 (of_decide_eq_true (by kernel_rfl))
  obtain ⟨_, hcell, _⟩ := hS.blk 0 _ l hg hl
  obtain ⟨y, hy, hv⟩ := hcell 0 _ rfl
  simp only [VRel] at hv
  subst hv
  rw [hb, ho] at hy
  refine (Any.strings_Contains Tryz.lays144 b1 b2 m w (by simpa using hs) hy).mono ?_
  rintro e w' ⟨rfl, rfl⟩
  exact ⟨_, _, rfl, ⟨rfl, rfl⟩, VRel.bool, Below.refl _ _⟩
end Go.Am
namespace Go.Am
open Go.Proofs
set_option maxRecDepth 100000
def prT : Prims := { join := 32, count := 117, index := 150 }
theorem callOk (lf n : Nat) : CallOk Tryz.prog (evCall tabT.get (primE prT) lf n) :=
  evCall_ok (by kernel_rfl) (trOk_get tabT id tabOk) (primE_ok Tryz.joinOk Tryz.countOk Tryz.indexOk) lf n
def isT : Option (AV × EState) → Bool
  | some (.bool true, _) => true
  | _ => false
theorem isT_ok {r : Option (AV × EState)} (h : isT r = true) : ∃ τ, r = some (.bool true, τ) := by
  unfold isT at h
  split at h
  · exact ⟨_, rfl⟩
  · cases h
theorem closed_ok {f lf n : Nat} {v : AV} {r : Option (AV × EState)} (hv : AV.flat v = true) (hr : evCall tabT.get (primE prT) lf n (.func (.func f) [] []) [] ⟨.nil, Tryz.prog.globals.size⟩ = r) (h : r.map (·.1) = some v) (σ : AState) :
    RunF (RsOf Tryz.prog) Tryz.prog f [] σ (fun u σ' => u = v ∧ σ' = σ) := by
  cases r with
  | none => cases h
  | some p =>
    obtain ⟨v', τ⟩ := p
    simp only [Option.map_some, Option.some.injEq] at h
    subst h
    exact RunF.closed hv ((callOk lf n _ _ _ _ _ hr).mono fun u σ' hh => hh.1) σ
end Go.Am
namespace Go.Am
open Go.RowKit Go.Proofs Do
set_option maxRecDepth 100000
abbrev fnA (n : Nat) : AV := .func (.func n) [] []
abbrev iA (n : Int) : AV := .int .i64 n
def rowsL : List AV := [.nilFunc, iA 0, iA 0, iA 0, fnA n_syntax_Predicate, iA 4, iA 0, iA 0, fnA n_syntax_none, iA 0, iA 0, iA 0, fnA n_syntax_none, iA 0, iA 1, iA 0,
  fnA n_syntax_none, iA 0, iA 2, iA 0, fnA n_syntax_none, iA 0, iA 2, iA 0, fnA n_syntax_none, iA 0, iA 2, iA 0, fnA n_syntax_none, iA 0, iA 2, iA 0,
  fnA n_syntax_Variable, iA 0, iA 1, iA 0, fnA n_syntax_Variable, iA 0, iA 1, iA 0, fnA n_syntax_none, iA 0, iA 1, iA 0, fnA n_syntax_none, iA 0, iA 1, iA 0, fnA n_syntax_none, iA 0, iA 1, iA 0, fnA n_syntax_none, iA 0, iA 1, iA 0,
  fnA n_syntax_none, iA 0, iA 2, iA 0, fnA n_syntax_ofForms, iA 0, iA 0, iA 1, fnA n_syntax_ofForms, iA 2, iA 0, iA 1]
theorem rows_ok (σ : AState) : RunF RR Tryz.prog n_syntax_rows [] σ (fun u σ' => u = .agg rowsL ∧ σ' = σ) :=
  closed_ok (lf := 100) (n := 100) rfl rfl (by kernel_rfl) σ
mutual
def Do.F.sane : F → Prop
  | .mk op n ar l => op < 256 ∧ n.length ≤ 1125899906842624 ∧ T.lens ar ≤ 1125899906842624 ∧ F.sanes l
def Do.F.sanes : List F → Prop
  | [] => True
  | f :: r => f.sane ∧ F.sanes r
end
theorem sane_mem {l : List F} (h : F.sanes l) {f : F} (hf : f ∈ l) : f.sane := by
  induction l with
  | nil => cases hf
  | cons a r ih =>
    simp only [F.sanes] at h
    rcases List.mem_cons.1 hf with e | e
    · subst e; exact h.1
    · exact ih h.2 e
theorem shapes_all (l : List F) : F.shapes l = !l.any (fun t => !t.shape) := by
  induction l with
  | nil => rfl
  | cons a r ih => simp only [F.shapes, ih, List.any_cons]; cases a.shape <;> simp
def RowIs (op nf a s sch : Nat) : Prop := (rowsL.drop (op * 4)).take 4 = [fnA nf, iA a, iA s, iA sch] ∧ rowsL[op * 4]? = some (fnA nf) ∧
  (sch = 1 ∧ row op = none ∨ sch = 0 ∧ op ≠ 16 ∧ ∃ k, row op = some (k, a, s) ∧ ∀ (nm : Str) (σ : AState), nm.length ≤ 1125899906842624 → RunF RR Tryz.prog nf [.str nm] σ (fun u σ' => u = .bool (nameK k nm) ∧ σ' = σ))
theorem rowIs_none {op a s : Nat} (h1 : (rowsL.drop (op * 4)).take 4 = [fnA n_syntax_none, iA a, iA s, iA 0]) (h2 : rowsL[op * 4]? = some (fnA n_syntax_none)) (h3 : row op = some (0, a, s)) (h4 : op ≠ 16) : ∃ nf a s sch, RowIs op nf a s sch :=
  ⟨_, a, s, 0, h1, h2, .inr ⟨rfl, h4, 0, h3, fun nm σ _ => none_ok nm σ⟩⟩
theorem rowIs_var {op a s : Nat} (h1 : (rowsL.drop (op * 4)).take 4 = [fnA n_syntax_Variable, iA a, iA s, iA 0]) (h2 : rowsL[op * 4]? = some (fnA n_syntax_Variable)) (h3 : row op = some (2, a, s)) (h4 : op ≠ 16) : ∃ nf a s sch, RowIs op nf a s sch :=
  ⟨_, a, s, 0, h1, h2, .inr ⟨rfl, h4, 2, h3, fun nm σ h => var_ok nm (by omega) σ⟩⟩
theorem rowIs_all : ∀ op, op < 17 → op ≠ 0 → ∃ nf a s sch, RowIs op nf a s sch
  | 0, _, h => absurd rfl h
  | 1, _, _ => ⟨_, 4, 0, 0, rfl, rfl, .inr ⟨rfl, by decide, 1, rfl, fun nm σ h => pred_ok nm (by omega) σ⟩⟩
  | 2, _, _ => rowIs_none (a := 0) (s := 0) rfl rfl rfl (by decide)
  | 3, _, _ => rowIs_none (a := 0) (s := 1) rfl rfl rfl (by decide)
  | 4, _, _ => rowIs_none (a := 0) (s := 2) rfl rfl rfl (by decide)
  | 5, _, _ => rowIs_none (a := 0) (s := 2) rfl rfl rfl (by decide)
  | 6, _, _ => rowIs_none (a := 0) (s := 2) rfl rfl rfl (by decide)
  | 7, _, _ => rowIs_none (a := 0) (s := 2) rfl rfl rfl (by decide)
  | 8, _, _ => rowIs_var (a := 0) (s := 1) rfl rfl rfl (by decide)
  | 9, _, _ => rowIs_var (a := 0) (s := 1) rfl rfl rfl (by decide)
  | 10, _, _ => rowIs_none (a := 0) (s := 1) rfl rfl rfl (by decide)
  | 11, _, _ => rowIs_none (a := 0) (s := 1) rfl rfl rfl (by decide)
  | 12, _, _ => rowIs_none (a := 0) (s := 1) rfl rfl rfl (by decide)
  | 13, _, _ => rowIs_none (a := 0) (s := 1) rfl rfl rfl (by decide)
  | 14, _, _ => rowIs_none (a := 0) (s := 2) rfl rfl rfl (by decide)
  | 15, _, _ => ⟨_, 0, 0, 1, rfl, rfl, .inl ⟨rfl, rfl⟩⟩
  | 16, _, _ => ⟨_, 2, 0, 1, rfl, rfl, .inl ⟨rfl, rfl⟩⟩
  | n + 17, h, _ => absurd h (by omega)
theorem shape_ok : ∀ (m : Nat) (f : F), f.nodes ≤ m → m ≤ 1152921504606846976 → f.sane → ∀ (σ : AState) (xs : List AV), DAtL σ.get f.dv xs →
    RunF RR Tryz.prog n_syntax_shape [.agg xs, .int .i64 0] σ (fun u σ' => u = .bool f.shape ∧ σ' = σ) := by
  intro m
  induction m using Nat.strongRecOn with
  | _ m ih =>
  intro f hf hm hs σ xs hD
  refine RunV.wf fun hW => RunV.forget rfl ?_
  refine runF_intro hmx rf_syntax_shape ?_
  obtain ⟨op, nm, ar, l⟩ := f
  obtain ⟨o1, c1, z1, o2, c2, z2, rfl, hA, hL⟩ := F.cells hD
  simp only [F.nodes] at hf
  simp only [F.sane] at hs
  have hcl := cnts_len ar
  have hnl := nodess_len l
  have hw : wrapF .i64 (op : Int) = op := wrap_i64 (by omega)
  have hW1 := hW.push (.cells [.int .u8 op, .str nm, .slice o1 ar.length c1 z1, .slice o2 l.length c2 z2] true)
  have hW2 := hW1.push (.cells [.int .i64 0] true)
  have hW3 := hW2.push (.cells rowsL true)
  have hE := (sub_push hW (.cells [.int .u8 op, .str nm, .slice o1 ar.length c1 z1, .slice o2 l.length c2 z2] true)).trans ((sub_push hW1 (.cells [.int .i64 0] true)).trans (sub_push hW2 (.cells rowsL true)))
  simp -implicitDefEqProofs (maxDischargeDepth := 15) only [Yr, Ys, Yt, Wb, Wj, Wk, Wo, opA, Wv, Ww, Wx, Wy, Wz, Za, Zb, List.replicate, Zc, Zd, Ze, Vb, Vc, Vd, AV.cells, Zf, Zg, Zi, Nat.reduceAdd, Nat.reduceSub, Zk, i_syntax_shape, c1_0, c1_1, c1_2, c1_3, c1_4, c1_5, c1_6, c1_7, c1_8, c1_9, c1_10, c1_11, c1_12, c1_13, c1_14, c1_15, c1_16, c1_17, c1_18]
  refine RunV.to (rows_ok _) ?_
  have hlr : rowsL.length = 68 := rfl
  have hall : (rowsL.all fun x => x.one) = true := rfl
  rcases Nat.lt_or_ge op 17 with h17 | h17
  · have h1 : decide ((op : Int) ≥ 17) = false := decide_eq_false (by omega)
    have e1 : (0 : Int) ≤ (op : Int) ∧ (op : Int) < (17 : Nat) := by omega
    have e2 : (op : Int).toNat = op := Int.toNat_natCast op
    rcases Nat.eq_zero_or_pos op with h0 | hp
    · have r0 : rowsL[op * 4]? = some .nilFunc := by subst h0; rfl
      have hr : row op = none := by subst h0; rfl
      simp -implicitDefEqProofs (maxDischargeDepth := 15) only [↓reduceIte, Yr, Ys, Yt, Yv, Yz, Wd, Wh, Wj, Wk, Wl, Wo, Wq, Wu, opA, Wv, Ww, Wx, Wy, Wz, Va, Za, Zb, Zd, Ze, Vb, Vc, Vd, Ve, AV.cells, Vg, Vh, Vi, Vj, Vn, partA, Zf, Zg, Nat.reduceAdd, Zj, Zk, Zl, Zn, Zp, Zq, Zs, binA, eqA, nilEq, putL, allOne, and_self, EndOk, resultA, oneOf, Zz, Yd, Vu, Vv, Yj, eq_self, hlr, hw, h1, e1, e2, hall, r0]
      exact ⟨by simp only [F.shape, hr], hE⟩
    obtain ⟨nf, a, s, sch, q1, q2, q3⟩ := rowIs_all op h17 (by omega)
    have q4 : op * 4 + 4 ≤ 68 := by omega
    have g0 : ((((σ.push (.cells [.int .u8 op, .str nm, .slice o1 ar.length c1 z1, .slice o2 l.length c2 z2] true)).push (.cells [.int .i64 0] true)).push (.cells rowsL true)).push (.cells [fnA nf, iA a, iA s, iA sch] true)).get (σ.push (.cells [.int .u8 op, .str nm, .slice o1 ar.length c1 z1, .slice o2 l.length c2 z2] true)).next = some (.cells [.int .i64 0] true) := by
      rw [Vh (by simp only [AState.push_next]; omega), Vh (by simp only [AState.push_next]; omega), Vg]
    have g1 : ((((σ.push (.cells [.int .u8 op, .str nm, .slice o1 ar.length c1 z1, .slice o2 l.length c2 z2] true)).push (.cells [.int .i64 0] true)).push (.cells rowsL true)).push (.cells [fnA nf, iA a, iA s, iA sch] true)).get σ.next = some (.cells [.int .u8 op, .str nm, .slice o1 ar.length c1 z1, .slice o2 l.length c2 z2] true) := by
      rw [Vh (by simp only [AState.push_next]; omega), Vh (by simp only [AState.push_next]; omega), Vh (by simp only [AState.push_next]; omega), Vg]
    have hE4 := hE.trans (sub_push hW3 (.cells [fnA nf, iA a, iA s, iA sch] true))
    rcases q3 with ⟨rfl, hr⟩ | ⟨rfl, h16, k, hr, hrun⟩
    · simp -implicitDefEqProofs (maxDischargeDepth := 15) only [↓reduceIte, Yr, Ys, Yt, Yv, Yw, Yz, Wa, Wd, We, Wg, Wh, Wj, Wk, Wl, Wo, Wq, Wu, opA, Wv, Ww, Wx, Wy, Wz, Va, Za, Zb, Zd, Ze, Vb, Vc, Vd, Ve, AV.cells, Vg, Vh, Vi, Vj, Vn, partA, Zf, Zg, Nat.reduceAdd, Zj, Zk, Zl, Zn, Zp, Zq, Zr, Zs, binA, eqA, nilEq, putL, allOne, Zu, Zv, AV.one, Zy, and_self, EndOk, resultA, oneOf, Zz, Yd, Vu, Vv, Yj, eq_self, Vy, hlr, hw, h1, e1, e2, hall, q1, q2, q4, show decide (((1 : Nat) : Int) > 0) = true from rfl]
      exact ⟨by simp only [F.shape, hr], hE4⟩
    · have hd0 : decide (((0 : Nat) : Int) > 0) = false := rfl
      simp -implicitDefEqProofs (maxDischargeDepth := 15) only [↓reduceIte, Yr, Ys, Yt, Yv, Wa, Wb, Wd, We, Wg, Wj, Wk, Wl, Wo, Wu, opA, Wv, Ww, Wx, Wy, Wz, Va, Za, Zb, Zd, Ze, Vb, Vc, Vd, Ve, AV.cells, Vg, Vh, Vi, Vj, Vn, partA, Zf, Zg, Zh, Zi, Nat.reduceAdd, Zj, Zk, Zl, Zn, Zp, Zq, Zr, Zs, binA, eqA, nilEq, putL, allOne, Zu, Zv, AV.one, Zy, and_self, Yd, Vu, Vv, Yj, eq_self, hlr, hw, h1, e1, e2, hall, q1, q2, q4, hd0]
      have g2 : ((((σ.push (.cells [.int .u8 op, .str nm, .slice o1 ar.length c1 z1, .slice o2 l.length c2 z2] true)).push (.cells [.int .i64 0] true)).push (.cells rowsL true)).push (.cells [fnA nf, iA a, iA s, iA ((0 : Nat) : Int)] true)).get (((σ.push (.cells [.int .u8 op, .str nm, .slice o1 ar.length c1 z1, .slice o2 l.length c2 z2] true)).push (.cells [.int .i64 0] true)).push (.cells rowsL true)).next = some (.cells [fnA nf, iA a, iA s, iA ((0 : Nat) : Int)] true) := Vg
      have hW4 := hW3.push (.cells [fnA nf, iA a, iA s, iA ((0 : Nat) : Int)] true)
      generalize (((σ.push (.cells [.int .u8 op, .str nm, .slice o1 ar.length c1 z1, .slice o2 l.length c2 z2] true)).push (.cells [.int .i64 0] true)).push (.cells rowsL true)).push (.cells [fnA nf, iA a, iA s, iA ((0 : Nat) : Int)] true) = σ4 at *
      refine RunV.to (hrun nm _ hs.2.1) ?_
      cases hn : nameK k nm
      · simp -implicitDefEqProofs (maxDischargeDepth := 15) only [↓reduceIte, Yr, Ys, Yt, Yv, Yw, Yz, Wd, Wh, Wj, Wk, Wl, Wo, Wq, Wu, opA, Wv, Ww, Wx, Wy, Wz, Za, Zb, Vb, EndOk, resultA, oneOf, Zz, Yc, Yd, Vu, Vv, Yj, eq_self, Vy]
        exact ⟨by simp only [F.shape, hr, hn]; simp, hE4⟩
      cases ha : decide ((ar.length : Int) > (a : Int))
      case true =>
        simp -implicitDefEqProofs (maxDischargeDepth := 15) only [↓reduceIte, Yr, Ys, Yt, Yv, Yw, Yz, Wd, Wh, Wj, Wk, Wl, Wo, Wq, Wu, opA, Wv, Ww, Wx, Wy, Wz, Za, Zb, Vb, partA, Zk, Zq, Zr, binA, EndOk, resultA, oneOf, Zz, Yb, Yd, Vu, Vv, Yj, eq_self, Vy, g1, g2, ha]
        have : decide (ar.length ≤ a) = false := by simp only [decide_eq_true_eq, decide_eq_false_iff_not] at ha ⊢; omega
        exact ⟨by simp only [F.shape, hr, this]; simp, hE4⟩
      have ha' : decide (ar.length ≤ a) = true := by simp only [decide_eq_true_eq, decide_eq_false_iff_not] at ha ⊢; omega
      cases hl : ((l.length : Int) != (s : Int))
      case true =>
        simp -implicitDefEqProofs (maxDischargeDepth := 15) only [↓reduceIte, Yr, Ys, Yt, Yv, Yz, Wd, Wh, Wj, Wk, Wl, Wo, Wq, Wu, opA, Wv, Ww, Wx, Wy, Wz, Za, Zb, Vb, partA, Zk, Zq, Zr, binA, EndOk, resultA, oneOf, Zz, Yb, Yd, Vu, Vv, Yj, eq_self, g1, g2, ha, hl]
        have : (l.length == s) = false := by
          simp only [bne_iff_ne, ne_eq, beq_eq_false_iff_ne] at hl ⊢; omega
        exact ⟨by simp only [F.shape, hr, this]; simp, hE4⟩
      have hl' : (l.length == s) = true := by
        simp only [bne_eq_false_iff_eq, beq_iff_eq] at hl ⊢; omega
      have h16' : ((op : Int) == 16) = false := by
        simp only [beq_eq_false_iff_ne]; omega
      simp -implicitDefEqProofs (maxDischargeDepth := 15) only [↓reduceIte, Yr, Ys, Yt, Yv, Wa, Wb, Wd, Wg, Wj, Wk, Wl, Wo, Wu, opA, Wv, Ww, Wx, Wy, Wz, Za, Zb, Vb, partA, Zh, Zi, Zk, Zl, Zq, Zr, binA, Yb, Yd, Vu, Vv, Yj, eq_self, g1, g2, ha, hl, h16']
      have hA' := hA.sub hE4
      have hL' := hL.sub hE4
      refine RunV.to (containsFunc_ok hmx (sz := 3) (ld := some 3) rf_slices_ContainsFunc_api_Term rf_slices_IndexFunc_api_Term (xs := ar) (q := fun t => !t.right) rfl (by omega) hA'.2.1 fun k x hx => ?_) ?_
      · obtain ⟨rfl, i, off, cs, w, rfl, hg, hl3, xs, hxs, hd⟩ := hA'.elem hx
        refine ⟨.agg xs, ⟨i, off, cs, w, rfl, hg, ?_⟩, ?_⟩
        · simp only [partA]; rw [if_pos hl3, hxs]
        · have hxm := List.mem_of_getElem? hx
          have hc := cnts_mem hxm
          have hl := lens_mem hxm
          refine RunV.wf fun hW5 => RunV.forget rfl ?_
          refine runF_intro hmx rf_syntax_shapeS1 ?_
          have hl : 3 ≤ xs.length := by rw [hd.length, T.dv_len]; omega
          have ht3 : xs.take 3 = xs := List.take_of_length_le (by rw [hd.length, T.dv_len]; omega)
          have hb : (σ4.push (.cells xs true)).get (σ.push (.cells [.int .u8 op, .str nm, .slice (some (i, off)) ar.length c1 3, .slice o2 l.length c2 z2] true)).next = some (.cells [.int .i64 0] true) := by
            rw [Vh (hW5.lt g0)]; exact g0
          simp -implicitDefEqProofs (maxDischargeDepth := 15) only [↓reduceIte, Yr, Ys, Yt, Wb, Wj, Wk, Wo, opA, Wv, Ww, Wx, Wy, Wz, Za, Zb, List.replicate, Zc, Zd, Vb, Vc, Vd, AV.cells, Vg, partA, Zf, Zg, Zh, Zi, Nat.reduceAdd, Nat.reduceSub, Zk, Zm, Zq, i_syntax_shapeS1, c82_0, c82_1, c82_2, hl, ht3, hb]
          refine RunV.to (term_ok x.cnt x (Nat.le_refl _) (by omega) (by omega) _ _ (DAtL.sub (sub_push hW5 _) _ _ hd)) ?_
          simp -implicitDefEqProofs (maxDischargeDepth := 15) only [Yr, Ys, Yt, Wh, Wo, Wu, opA, Wv, Wx, Wy, Wz, Za, Zb, Vb, true_and, EndOk, resultA, oneOf, Zz, eq_self]
          exact sub_push hW5 _
      cases ht : ar.any (fun t => !t.right)
      case true =>
        simp -implicitDefEqProofs (maxDischargeDepth := 15) only [↓reduceIte, Yr, Ys, Yt, Yw, Wd, We, Wh, Wo, Wu, opA, Wv, Ww, Wx, Wy, Wz, Za, Zb, Vb, EndOk, resultA, oneOf, Zz, Yb, Yd, Vu, Vv, Vx]
        exact ⟨by simp only [F.shape, hr, rights_all, ht]; simp, hE4⟩
      simp -implicitDefEqProofs (maxDischargeDepth := 15) only [Ys, Yt, Yv, Wb, Wd, We, Wu, opA, Wv, Ww, Wx, Wy, Wz, Za, Zb, Vb, partA, Zh, Zi, Zk, Zq, Zr, Yc, Vu, Vv, Yj, g1]
      refine RunV.to (containsFunc_ok hmx (sz := 4) (ld := some 4) rf_slices_ContainsFunc_api_Form rf_slices_IndexFunc_api_Form (xs := l) (q := fun t => !t.shape) rfl (by omega) hL'.2.1 fun k x hx => ?_) ?_
      · obtain ⟨rfl, i, off, cs, w, rfl, hg, hl3, xs, hxs, hd⟩ := hL'.elem hx
        refine ⟨.agg xs, ⟨i, off, cs, w, rfl, hg, ?_⟩, ?_⟩
        · simp only [partA]; rw [if_pos hl3, hxs]
        · have hxm := List.mem_of_getElem? hx
          have hc := nodes_mem hxm
          refine RunV.wf fun hW5 => RunV.forget rfl ?_
          refine runF_intro hmx rf_syntax_shapeS2 ?_
          have hl : 4 ≤ xs.length := by rw [hd.length, F.dv_len]; omega
          have ht3 : xs.take 4 = xs := List.take_of_length_le (by rw [hd.length, F.dv_len]; omega)
          have hb : (σ4.push (.cells xs true)).get (σ.push (.cells [.int .u8 op, .str nm, .slice o1 ar.length c1 z1, .slice (some (i, off)) l.length c2 4] true)).next = some (.cells [.int .i64 0] true) := by
            rw [Vh (hW5.lt g0)]; exact g0
          simp -implicitDefEqProofs (maxDischargeDepth := 15) only [↓reduceIte, Yr, Ys, Yt, Wb, Wj, Wk, Wo, opA, Wv, Ww, Wx, Wy, Wz, Za, Zb, List.replicate, Zc, Zd, Vb, Vc, Vd, AV.cells, Vg, partA, Zf, Zg, Zh, Zi, Nat.reduceAdd, Nat.reduceSub, Zk, Zm, Zq, i_syntax_shapeS2, c35_0, c35_1, c35_2, hl, ht3, hb]
          refine RunV.to (ih x.nodes (by omega) x (Nat.le_refl _) (by omega) (sane_mem hs.2.2.2 hxm) _ _ (DAtL.sub (sub_push hW5 _) _ _ hd)) ?_
          simp -implicitDefEqProofs (maxDischargeDepth := 15) only [Yr, Ys, Yt, Wh, Wo, Wu, opA, Wv, Wx, Wy, Wz, Za, Zb, Vb, true_and, EndOk, resultA, oneOf, Zz, eq_self]
          exact sub_push hW5 _
      · simp -implicitDefEqProofs (maxDischargeDepth := 15) only [↓reduceIte, Yr, Ys, Yt, Yv, Wd, Wh, Wo, Wu, opA, Wv, Wx, Wy, Wz, Za, Zb, Vb, EndOk, resultA, oneOf, Zz, Vu, Vv, Yj, eq_self]
        exact ⟨by simp only [F.shape, hr, hn, ha', hl', rights_all, shapes_all, ht]; simp, hE4⟩
  · have h1 : decide ((op : Int) ≥ 17) = true := decide_eq_true (by omega)
    have hr : row op = none := by
      unfold row
      repeat' split
      all_goals first | rfl | omega
    simp -implicitDefEqProofs (maxDischargeDepth := 15) only [↓reduceIte, Yr, Ys, Yt, Yw, Yz, Wd, Wh, Wj, Wk, Wl, Wo, Wq, Wu, opA, Wv, Ww, Wx, Wy, Wz, Va, Za, Zb, Zd, Ze, Vb, Vc, Vd, Ve, AV.cells, Vg, Vh, Vi, Vj, Vn, partA, Zf, Zg, Nat.reduceAdd, Zj, Zk, Zl, Zn, Zp, Zq, Zs, binA, putL, allOne, and_self, EndOk, resultA, oneOf, Zz, Vu, Vv, eq_self, Vy, hlr, hw, h1, hall]
    exact ⟨by simp only [F.shape, hr], hE⟩
theorem right_ok (f : F) (hf : f.nodes ≤ 1152921504606846976) (hs : f.sane) (σ : AState) (xs : List AV) (hD : DAtL σ.get f.dv xs) :
    RunF RR Tryz.prog n_syntax_Right [.agg xs] σ (fun u σ' => u = .bool f.right ∧ σ' = σ) := by
  refine RunV.wf fun hW => RunV.forget rfl ?_
  refine runF_intro hmx rf_syntax_Right ?_
  have hl : 4 ≤ xs.length := by rw [hD.length, F.dv_len]; omega
  have ht : xs.take 4 = xs := List.take_of_length_le (by rw [hD.length, F.dv_len]; omega)
  have hE := sub_push hW (.cells xs true)
  have hD1 := DAtL.sub hE _ _ hD
  have fits : RunF RR Tryz.prog n_syntax_fits [.agg xs] (σ.push (.cells xs true)) (fun u σ' => u = .bool (decide (f.nodes ≤ 400) && decide (f.depth ≤ 40)) ∧ σ' = σ.push (.cells xs true)) := by
    refine RunV.wf fun hW1 => RunV.forget rfl ?_
    refine runF_intro hmx rf_syntax_fits ?_
    have hE1 := sub_push hW1 (.cells xs true)
    have hD2 := DAtL.sub hE1 _ _ hD1
    simp -implicitDefEqProofs (maxDischargeDepth := 15) only [↓reduceIte, Yr, Ys, Yt, Wb, Wj, Wk, Wo, opA, Wv, Ww, Wx, Wy, Wz, Za, Zb, List.replicate, Zc, Zd, Ze, Vb, Vc, Vd, AV.cells, Vg, partA, Zf, Zg, Zh, Zi, Nat.reduceSub, Zk, Zm, i_syntax_fits, c9_0, c9_1, c9_2, c9_3, hl, ht]
    refine RunV.to (nodes_ok f hf _ _ hD2) ?_
    have e1 : decide ((f.nodes : Int) ≤ 400) = decide (f.nodes ≤ 400) := by rw [decide_eq_decide]; omega
    have e2 : decide ((f.depth : Int) ≤ 40) = decide (f.depth ≤ 40) := by rw [decide_eq_decide]; omega
    cases h1 : decide (f.nodes ≤ 400)
    · rw [h1] at e1
      simp -implicitDefEqProofs (maxDischargeDepth := 15) only [↓reduceIte, Yr, Ys, Yt, Yw, Wd, We, Wh, Wo, Wu, opA, Wv, Ww, Wx, Wy, Wz, Za, Zb, Vb, binA, EndOk, resultA, oneOf, Zz, Yd, Vu, Vv, eq_self, Vx, e1]
      exact ⟨by simp, hE1⟩
    · rw [h1] at e1
      simp -implicitDefEqProofs (maxDischargeDepth := 15) only [↓reduceIte, Ys, Yt, Yv, Wb, Wd, We, Wu, opA, Wv, Ww, Wx, Wy, Wz, Za, Zb, Vb, Vg, partA, Zh, Zi, Zk, Zm, binA, Zx, Vu, Vv, Yj, eq_self, hl, ht, e1]
      refine RunV.to (depth_ok _ f (Nat.le_refl _) hf _ _ hD2) ?_
      simp -implicitDefEqProofs (maxDischargeDepth := 15) only [↓reduceIte, Yr, Ys, Yt, Yv, Wd, Wh, Wo, Wu, opA, Wv, Ww, Wx, Wy, Wz, Za, Zb, Vb, binA, true_and, EndOk, resultA, oneOf, Zz, Vu, Vv, Yj, eq_self, e2]
      exact hE1
  simp -implicitDefEqProofs (maxDischargeDepth := 15) only [↓reduceIte, Yr, Ys, Yt, Wb, Wj, Wk, Wo, opA, Wv, Ww, Wx, Wy, Wz, Za, Zb, List.replicate, Zc, Zd, Ze, Vb, Vc, Vd, AV.cells, Vg, partA, Zf, Zg, Zh, Zi, Nat.reduceSub, Zk, Zm, i_syntax_Right, c10_0, c10_1, c10_2, c10_3, hl, ht]
  refine RunV.to fits ?_
  cases h1 : (decide (f.nodes ≤ 400) && decide (f.depth ≤ 40))
  · simp -implicitDefEqProofs (maxDischargeDepth := 15) only [↓reduceIte, Yr, Ys, Yt, Yw, Wd, We, Wh, Wo, Wu, opA, Wv, Ww, Wx, Wy, Wz, Za, Zb, Vb, EndOk, resultA, oneOf, Zz, Yd, Vu, Vv, Vx]
    exact ⟨by simp only [F.right, h1]; simp, hE⟩
  · simp -implicitDefEqProofs (maxDischargeDepth := 15) only [↓reduceIte, Ys, Yt, Yv, Wb, Wd, We, Wu, opA, Wv, Ww, Wx, Wy, Wz, Za, Zb, Vb, Vg, partA, Zh, Zi, Zk, Zm, Vu, Vv, Yj, hl, ht]
    refine RunV.to (shape_ok _ f (Nat.le_refl _) hf hs _ _ hD1) ?_
    simp -implicitDefEqProofs (maxDischargeDepth := 15) only [↓reduceIte, Yr, Ys, Yt, Wh, Wo, Wu, opA, Wv, Wx, Wy, Wz, Za, Zb, Vb, EndOk, resultA, oneOf, Zz, eq_self]
    exact ⟨by simp only [F.right, h1]; simp, hE⟩
end Go.Am
namespace Go.Am
open Go.RowKit Go.Proofs Do
set_option maxRecDepth 100000
theorem jn_eq (l : List Str) (s : Str) : Lib.join l s = jn l s := rfl
theorem sjoin_ok {σ : AState} {o : Option (Nat × Nat)} {n : Nat} {c : Option Nat} {z : Nat} {ss : List Str} (h : Strs σ.get o n z ss) (sep : Str) (hb : (jn ss sep).length ≤ 281474976710656) (hn : n ≤ 140737488355328) :
    RunF RR Tryz.prog n_strings_Join [.slice o n c z, .str sep] σ (fun u σ' => u = .str (jn ss sep) ∧ σ' = σ) :=
  prim_join Tryz.joinOk h.first (toStrs_map ss) ⟨hb, hn⟩
theorem join_ok {σ : AState} {o : Option (Nat × Nat)} {n : Nat} {c : Option Nat} {z : Nat} {ss : List Str} (h : Strs σ.get o n z ss) (hb : (jn ss sp).length ≤ 281474976710656) (hn : n ≤ 140737488355328) :
    RunF RR Tryz.prog n_describe_join [.slice o n c z] σ (fun u σ' => u = .str (jn ss sp) ∧ σ' = σ) := by
  refine runF_intro hmx rf_describe_join ?_
  simp -implicitDefEqProofs (maxDischargeDepth := 15) only [Yr, Ys, Yt, Wb, Wj, Wk, Wo, opA, Wv, Ww, Wx, Wy, Wz, Za, Zb, List.replicate, Zc, Zd, Ze, Vb, Zf, Zg, Zh, Zi, Nat.reduceSub, Zk, i_describe_join, c17_0, c17_1, c17_2]
  refine RunV.to (sjoin_ok h sp hb hn) ?_
  simp -implicitDefEqProofs (maxDischargeDepth := 15) only [Yr, Ys, Yt, Wh, Wo, Wu, opA, Wv, Wx, Wy, Wz, Za, Zb, Vb, and_self, EndOk, resultA, oneOf, Zz, eq_self]
theorem strs_new {σ : AState} {l : List AV} {w : Bool} {ss : List Str} {n : Nat} (hl : l = ss.map .str) (hn : ss.length = n) : Strs (σ.push (.cells l w)).get (some (σ.next, 0)) n 1 ss :=
  .inr ⟨hn, rfl, σ.next, 0, l, w, rfl, Vg, by rw [hl]; simp; omega, by rw [hl, List.drop_zero, ← hn]; exact List.take_of_length_le (by simp)⟩
theorem jn_le_mem {l : List Str} {s x : Str} (h : x ∈ l) : x.length ≤ (jn l s).length := by
  induction l with
  | nil => cases h
  | cons a r ih =>
    cases r with
    | nil =>
      rw [List.mem_singleton] at h; subst h; rw [jn_one]; exact Nat.le_refl _
    | cons b r =>
      rw [jn_cons2]
      simp only [List.length_append]
      rcases List.mem_cons.1 h with e | e
      · subst e; omega
      · have := ih e; omega
theorem jn_len {l : List Str} {s : Str} (h : 1 ≤ s.length) : l.length ≤ (jn l s).length + 1 := by
  induction l with
  | nil => simp
  | cons a r ih =>
    cases r with
    | nil => simp
    | cons b r =>
      rw [jn_cons2]
      simp only [List.length_append, List.length_cons] at ih ⊢
      omega
theorem txts_take {l : List T} {k : Nat} {t : T} (h : l[k]? = some t) : T.txts (l.take (k + 1)) = T.txts (l.take k) ++ [t.txt] := by
  induction l generalizing k with
  | nil => simp at h
  | cons a r ih =>
    cases k with
    | zero => simp only [List.getElem?_cons_zero, Option.some.injEq] at h; subst h; simp [T.txts]
    | succ k => simp only [List.getElem?_cons_succ] at h; simp only [List.take_succ_cons, T.txts, ih h, List.cons_append]
theorem txts_len (l : List T) : (T.txts l).length = l.length := by
  induction l with
  | nil => rfl
  | cons a r ih => simp [T.txts, ih]
theorem txts_mem {l : List T} {t : T} (h : t ∈ l) : t.txt ∈ T.txts l := by
  induction l with
  | nil => cases h
  | cons a r ih =>
    simp only [T.txts]
    rcases List.mem_cons.1 h with e | e
    · subst e; simp
    · exact List.mem_cons_of_mem _ (ih e)
theorem T.txt_head (v : Bool) (n : Str) (ar : List T) : (T.mk v n ar).txt = headTxt n ar := by
  cases ar with
  | nil => rfl
  | cons a r => rfl
structure Grown (σ0 σ : AState) (o : Option (Nat × Nat)) (n : Nat) (c : Option Nat) (z sz : Nat) (cs : List AV) : Prop where
  wf0 : σ0.Wf
  wf : σ.Wf
  keep : ∀ i b, σ0.get i = some b → σ.get i = some b
  le : σ0.next ≤ σ.next
  len : cs.length = n * sz
  at' : (o = none ∧ n = 0) ∨ (c = none ∧ z = sz ∧ ∃ i, o = some (i, 0) ∧ σ0.next ≤ i ∧ σ.get i = some (.cells cs true))
theorem Grown.strs {σ0 σ : AState} {o : Option (Nat × Nat)} {n : Nat} {c : Option Nat} {z : Nat} {ss : List Str} (h : Grown σ0 σ o n c z 1 (ss.map .str)) : Strs σ.get o n z ss := by
  have hl := h.len
  simp only [List.length_map, Nat.mul_one] at hl
  rcases h.at' with ⟨h2, h3⟩ | ⟨_, h3, i, h4, _, h5⟩
  · exact .inl ⟨h2, h3, List.length_eq_zero_iff.1 (by omega)⟩
  · exact .inr ⟨hl, h3, i, 0, _, true, h4, h5, by simp [hl], by rw [List.drop_zero, ← hl]; exact List.take_of_length_le (by simp)⟩
theorem Grown.nil {σ0 σ : AState} (hW0 : σ0.Wf) (hW : σ.Wf) (hk : ∀ i b, σ0.get i = some b → σ.get i = some b) (hl : σ0.next ≤ σ.next) (c : Option Nat) (z sz : Nat) : Grown σ0 σ none 0 c z sz [] :=
  ⟨hW0, hW, hk, hl, by simp, .inl ⟨rfl, rfl⟩⟩
theorem Grown.push {σ0 σ : AState} {o : Option (Nat × Nat)} {n : Nat} {c : Option Nat} {z sz : Nat} {cs : List AV} (h : Grown σ0 σ o n c z sz cs) (b : ABlk) : Grown σ0 (σ.push b) o n c z sz cs :=
  ⟨h.wf0, h.wf.push b, fun i x e => sub_push h.wf b i x (h.keep i x e), Nat.le_succ_of_le h.le, h.len, h.at'.imp_right fun ⟨h1, h2, i, h3, h4, h5⟩ => ⟨h1, h2, i, h3, h4, sub_push h.wf b i _ h5⟩⟩
theorem Grown.append {σ0 σ : AState} {o : Option (Nat × Nat)} {n : Nat} {c : Option Nat} {z sz bytes : Nat} {cs xs : List AV} (h : Grown σ0 σ o n c z sz cs) (hsz : 0 < sz) (hx : xs.length = sz) (ho : allOne xs = true) (hg : grows (n + 1) bytes = true) :
    ∃ i es, appendA σ.get σ.next sz bytes (.slice o n c z) 1 xs = some (.slice (some (i, 0)) (n + 1) none sz, es) ∧ Grown σ0 (σ.app es) (some (i, 0)) (n + 1) none sz sz (cs ++ xs) ∧ σ.next ≤ (σ.app es).next ∧ (∀ j b, (∀ i, o = some (i, 0) → j ≠ i) → σ.get j = some b → (σ.app es).get j = some b) := by
  have hl := h.len
  have h3 : (cs ++ xs).length = (n + 1) * sz := by rw [List.length_append, hl, hx, Nat.add_mul, Nat.one_mul]
  rcases h.at' with ⟨rfl, rfl⟩ | ⟨rfl, rfl, i, rfl, hi, hgi⟩
  · have hc : cs = [] := List.length_eq_zero_iff.1 (by simpa using hl)
    subst hc
    refine ⟨σ.next, [.push (.cells xs true)], ?_, ?_, Nat.le_succ _, fun j b _ e => sub_push h.wf _ j b e⟩
    · simp [appendA, hsz, hg]
    · refine ⟨h.wf0, h.wf.push _, fun i b e => sub_push h.wf _ i b (h.keep i b e), Nat.le_succ_of_le h.le, by simpa using h3, .inr ⟨rfl, rfl, σ.next, rfl, h.le, ?_⟩⟩
      show (σ.push _).get σ.next = _
      rw [Vg]; rfl
  · refine ⟨σ.next, [.kill i, .push (.cells (cs ++ xs) true)], ?_, ?_, Nat.le_succ _, ?_⟩
    · simp [appendA, hsz, hg, hgi, ho, hl, List.take_of_length_le (Nat.le_of_eq hl)]
    · refine ⟨h.wf0, (h.wf.kill i).push _, fun j b e => ?_, Nat.le_succ_of_le h.le, h3, .inr ⟨rfl, rfl, σ.next, rfl, h.le, ?_⟩⟩
      · show ((σ.kill i).push _).get j = some b
        have hj := h.keep j b e
        have hne : j ≠ i := by
          have := h.wf0.lt e
          omega
        rw [Vh (by show j < σ.next; exact h.wf.lt hj), Vm hne]; exact hj
      · show ((σ.kill i).push _).get σ.next = _
        exact Vg (σ := σ.kill i)
    · intro j b hj e
      show ((σ.kill i).push _).get j = some b
      rw [Vh (by show j < σ.next; exact h.wf.lt e), Vm (hj i rfl)]; exact e
theorem term_txt_ok : ∀ (m : Nat) (n : Str) (ar : List T), T.cnts ar ≤ m → m ≤ 1099511627776 → (headTxt n ar).length ≤ 281474976710656 → ∀ (σ : AState) (o : Option (Nat × Nat)) (nn : Nat) (c : Option Nat) (z : Nat), Ts σ.get o nn z ar →
    RunF RR Tryz.prog n_describe_term [.str n, .slice o nn c z] σ (fun u σ' => u = .str (headTxt n ar) ∧ σ' = σ) := by
  intro m
  induction m using Nat.strongRecOn with
  | _ m ih =>
  intro n ar hm hmb hlb σ o nn c z hT
  refine RunV.wf fun hW => RunV.forget rfl ?_
  refine runF_intro hmx rf_describe_term ?_
  have hn : nn = ar.length := hT.1
  have hlen := cnts_len ar
  cases ar with
  | nil =>
    have h0 : nn = 0 := hn
    subst h0
    simp -implicitDefEqProofs (maxDischargeDepth := 15) only [↓reduceIte, Yr, Ys, Yt, Yz, Wh, Wj, Wk, Wl, Wo, Wq, opA, Wv, Ww, Wx, Wy, Wz, Za, Zb, List.replicate, Zc, Zd, Ze, Vb, Zf, Zg, Nat.reduceAdd, Nat.reduceSub, Zk, binA, EndOk, resultA, oneOf, Zz, eq_self, i_describe_term, c46_0, c46_1, c46_2, c46_3, c46_4, c46_5, c46_6, c46_7, c46_8, c46_9, c46_10, c46_11, c46_12, c46_13, c46_14, c46_15, c46_16, c46_17, show (((0 : Nat) : Int) == 0) = true from rfl]
    exact ⟨rfl, Sub.refl _⟩
  | cons a r =>
    have h0 : ((nn : Int) == 0) = false := by
      simp only [beq_eq_false_iff_ne]; simp only [List.length_cons] at hn; omega
    generalize har : a :: r = ar at *
    have hht : headTxt n ar = jn [n, wOf, jn (T.txts ar) sAnd, wClose] sp := by subst har; rfl
    rw [hht] at hlb ⊢
    have hl2 : (jn (T.txts ar) sAnd).length ≤ 281474976710656 := Nat.le_trans (jn_le_mem (by simp)) hlb
    simp -implicitDefEqProofs (maxDischargeDepth := 15) only [↓reduceIte, Yr, Ys, Yt, Wa, Wg, Wj, Wk, Wl, Wm, Wo, opA, Wv, Ww, Wx, Wy, Wz, Za, Zb, List.replicate, Zc, Zd, Ze, Vb, Zf, Zg, Nat.reduceAdd, Nat.reduceSub, Zk, binA, eq_self, i_describe_term, c46_0, c46_1, c46_2, c46_3, c46_4, c46_5, c46_6, c46_7, c46_8, c46_9, c46_10, c46_11, c46_12, c46_13, c46_14, c46_15, c46_16, c46_17, h0]
    refine wp_loop (fun ts σ' m => ∃ (k : Nat) (so : Option (Nat × Nat)) (sc : Option Nat) (sz : Nat), Grown σ σ' so k sc sz 1 ((T.txts (ar.take k)).map .str) ∧ k + m = nn ∧ ∃ j2 j3 j6 j7 j8 j9 j10 j11 j15 j16 j17 j18 j19 j20 j21 j22 j23 j24 j25 j26 j27 j28 j29 j30 j31 : AV, ts = [.str n, .slice o nn c z, j2, j3, .str [], .slice so k sc sz, j6, j7, j8, j9, j10, j11, .slice o nn c z, .int .i64 nn, .int .i64 k, j15, j16, j17, j18, j19, j20, j21, j22, j23, j24, j25, j26, j27, j28, j29, j30, j31]) nn ⟨0, none, _, _, Grown.nil hW hW (fun _ _ e => e) (Nat.le_refl _) _ _ _, by omega, _, _, _, _, _, _, _, _, _, _, _, _, _, _, _, _, _, _, _, _, _, _, _, _, _, rfl⟩ ?_
    rintro m' ts σ' ⟨k, so, sc, sz, hG, hk, j2, j3, j6, j7, j8, j9, j10, j11, j15, j16, j17, j18, j19, j20, j21, j22, j23, j24, j25, j26, j27, j28, j29, j30, j31, rfl⟩
    have hT' := hT.sub hG.keep
    by_cases hlt : k < nn
    · obtain ⟨t, ht, htm⟩ := get_lt (l := ar) (k := k) (by omega)
      obtain ⟨rfl, i, off, cs, w, rfl, hg, hlen3, xs, hxs, hd⟩ := hT'.elem ht
      have hc := cnts_mem htm
      have htx := txts_mem htm
      obtain ⟨v, nm, ar'⟩ := t
      obtain ⟨oa, ca, za, rfl, hA⟩ := T.cells hd
      have hi := hG.wf.lt hg
      have hd : decide ((k : Int) < nn) = true := decide_eq_true (by omega)
      have e1 : (0 : Int) ≤ (k : Int) ∧ (k : Int) < (nn : Int) := by omega
      simp only [T.cnt] at hc
      rw [T.txt_head] at htx
      simp -implicitDefEqProofs (maxDischargeDepth := 15) only [↓reduceIte, Yr, Ys, Yt, Yz, Wb, Wg, Wj, Wk, Wl, Wm, Wo, Wp, Wq, Ws, Wt, opA, Wv, Ww, Wx, Wy, Wz, Va, Za, Zb, Zd, Ze, Vb, Vc, Vd, Ve, AV.cells, Vg, Vn, partA, Zf, Zg, Zh, Zi, Nat.reduceAdd, Zj, Zk, Zn, Zp, Zq, Zr, Zs, binA, putL, allOne, Zu, Zv, AV.one, Zy, and_self, EndOk, resultA, oneOf, Zz, Yf, eq_self, Yp, e1, hg, hlen3, hxs]
      refine RunV.to (ih (T.cnts ar') (by omega) nm ar' (Nat.le_refl _) (by omega) (Nat.le_trans (jn_le_mem htx) hl2) _ _ _ _ _ (hA.sub (sub_push hG.wf _))) ?_
      have hG1 := (hG.push (.cells [.bool v, .str nm, .slice oa ar'.length ca za] true)).push (.cells [.str (headTxt nm ar')] true)
      obtain ⟨i', es, he, hG2, _⟩ := hG1.append (bytes := 16) (xs := [.str (headTxt nm ar')]) (by omega) rfl rfl (decide_eq_true (by omega))
      simp -implicitDefEqProofs (maxDischargeDepth := 15) only [↓reduceIte, Yr, Ys, Yt, Wj, Wo, Wr, Wu, opA, Wv, Ww, Wx, Wy, Wz, Za, Zb, Zd, Ze, Vb, Vc, Vd, AV.cells, Vg, Zf, Zg, Zh, Zi, Zj, Zk, Zm, Zn, Zo, Zp, Zs, Zt, binA, fillA, and_self, lenA, firstA, eq_self, he]
      rw [wrap_i64 (n := (k : Int) + 1) (by omega)]
      refine ⟨m' - 1, by omega, k + 1, _, _, _, ?_, by omega, _, _, _, _, _, _, _, _, _, _, _, _, _, _, _, _, _, _, _, _, _, _, _, _, _, rfl⟩
      rw [txts_take ht, List.map_append, T.txt_head]
      exact hG2
    · have hd : decide ((k : Int) < nn) = false := decide_eq_false (by omega)
      have hkn : k = nn := by omega
      subst hkn
      have : ar.take k = ar := List.take_of_length_le (by omega)
      rw [this] at hG
      simp -implicitDefEqProofs (maxDischargeDepth := 15) only [↓reduceIte, Yr, Ys, Yt, Wa, Wb, Wi, Wj, Wk, Wl, Wo, Wp, Wq, Ws, Wt, opA, Wv, Ww, Wx, Wy, Wz, Za, Zb, Vb, Zh, Zi, binA, EndOk, resultA, oneOf, Zz, eq_self, hd]
      refine RunV.to (sjoin_ok hG.strs sAnd hl2 (by omega)) ?_
      simp -implicitDefEqProofs (maxDischargeDepth := 15) only [↓reduceIte, Ys, Yt, Wb, Wu, opA, Wv, Ww, Wx, Wy, Wz, Za, Zb, Zc, Zd, Ze, Vb, Vc, Vd, AV.cells, Zf, Zg, Zh, Zi, Nat.reduceAdd, Nat.reduceLeDiff, Zj, Zk, Zm, Zn, Zo, Zp, Zs, fillA, and_self, eq_self]
      have hst := strs_new (σ := σ') (w := true) (l := [.str n, .str wOf, .str (jn (T.txts ar) sAnd), .str wClose]) (ss := [n, wOf, jn (T.txts ar) sAnd, wClose]) (n := 4) rfl rfl
      refine RunV.to (join_ok hst hlb (by omega)) ?_
      simp -implicitDefEqProofs (maxDischargeDepth := 15) only [Yr, Ys, Yt, Wh, Wo, Wu, opA, Wv, Wx, Wy, Wz, Za, Zb, Vb, true_and, EndOk, resultA, oneOf, Zz, eq_self]
      exact fun i b e => sub_push hG.wf _ i b (hG.keep i b e)
end Go.Am
namespace Go.Am
open Go.RowKit Go.Proofs Do
set_option maxRecDepth 100000
def patCells (p : Nat × Str × Str) : List AV := [.int .u8 p.1, .str p.2.1, .str p.2.2]
def patsL : List AV := pats.flatMap patCells
theorem patterns_ok (σ : AState) : RunF RR Tryz.prog n_describe_patterns [] σ (fun u σ' => u = .slice (some (σ.next, 0)) 11 (some 11) 3 ∧ σ' = σ.push (.cells patsL true)) := by
  refine runF_intro hmx rf_describe_patterns ?_
  simp -implicitDefEqProofs (maxDischargeDepth := 15) only [↓reduceIte, Yr, Ys, Yt, Wh, Wj, Wk, Wo, opA, Wv, Ww, Wx, Wy, Wz, Za, Zb, List.replicate, Zc, Zd, Ze, Vb, Vc, Vd, AV.cells, Zf, Zg, Zh, Zi, Nat.reduceAdd, Nat.reduceLeDiff, Nat.reduceSub, Zj, Zk, Zm, Zn, Zo, Zp, Zs, fillA, and_self, true_and, EndOk, resultA, oneOf, Zz, eq_self, i_describe_patterns, c48_0, c48_1]
  rfl
theorem pats_elem : ∀ (k : Nat) (p : Nat × Str × Str), pats[k]? = some p → partA patsL (0 + k * 3) (some 3) = some (.agg (patCells p)) ∧ k < 11 ∧ patsL[k * 3 + 1]? = some (.str p.2.1) ∧ patsL[k * 3 + 2]? = some (.str p.2.2)
  | 0, p, h | 1, p, h | 2, p, h | 3, p, h | 4, p, h | 5, p, h | 6, p, h | 7, p, h | 8, p, h | 9, p, h | 10, p, h => by cases h; exact ⟨rfl, by omega, rfl, rfl⟩
  | k + 11, p, h => by simp [pats] at h
theorem headS1_ok (σ : AState) (b : Nat) (p : Nat × Str × Str) (op : Nat) (xs : List AV) (hb : σ.get b = some (.cells (.int .u8 op :: xs) true)) :
    RunV RR Tryz.prog (.func (.func n_describe_headS1) [] [.ptr (some (b, 0))]) [.agg (patCells p)] σ (fun u σ' => u = .bool (p.1 == op) ∧ σ' = σ) := by
  refine RunV.wf fun hW => RunV.forget rfl ?_
  refine runF_intro hmx rf_describe_headS1 ?_
  have hbl := hW.lt hb
  simp -implicitDefEqProofs (maxDischargeDepth := 15) only [↓reduceIte, Yr, Ys, Yt, Wh, Wj, Wk, Wo, opA, Wv, Ww, Wx, Wy, Wz, Za, Zb, List.replicate, Zc, Zd, Vb, Vc, Vd, AV.cells, Vg, Vh, partA, Zf, Zg, Nat.reduceAdd, Nat.reduceSub, Zk, Zl, Zq, binA, EndOk, resultA, oneOf, Zz, eq_self, i_describe_headS1, c39_0, c39_1, patCells, hb, hbl]
  refine ⟨?_, sub_push hW _⟩
  congr 1
  rw [Bool.eq_iff_iff]
  simp only [beq_iff_eq]
  omega
def OpIn (op : Nat) : Prop := op = 1 ∨ op = 8 ∨ op = 9 ∨ (op ≠ 1 ∧ op ≠ 8 ∧ op ≠ 9 ∧ ∃ k p, pats.findIdx? (fun p => p.1 == op) = some k ∧ pats[k]? = some p ∧ pat op = p.2)
theorem opIn_of {op k : Nat} {p : Nat × Str × Str} (h1 : op ≠ 1) (h2 : op ≠ 8) (h3 : op ≠ 9) (h : pats.findIdx? (fun p => p.1 == op) = some k) (hp : pats[k]? = some p) (hq : pat op = p.2) : OpIn op := .inr (.inr (.inr ⟨h1, h2, h3, k, p, h, hp, hq⟩))
theorem ok_op : ∀ f : F, f.ok → ∃ op n ar l, f = .mk op n ar l ∧ OpIn op
  | .mk op n ar l, h => by
    refine ⟨op, n, ar, l, rfl, ?_⟩
    simp only [F.ok] at h
    obtain ⟨_, ⟨h, _⟩ | ⟨h, _⟩ | ⟨h | h | h | h | h, _⟩ | ⟨h | h | h | h | h, _⟩ | ⟨h | h, _⟩⟩ := h
    · exact .inl h
    · subst h; exact opIn_of (k := 0) (by decide) (by decide) (by decide) rfl rfl rfl
    · subst h; exact opIn_of (k := 1) (by decide) (by decide) (by decide) rfl rfl rfl
    · subst h; exact opIn_of (k := 2) (by decide) (by decide) (by decide) rfl rfl rfl
    · subst h; exact opIn_of (k := 3) (by decide) (by decide) (by decide) rfl rfl rfl
    · subst h; exact opIn_of (k := 4) (by decide) (by decide) (by decide) rfl rfl rfl
    · subst h; exact opIn_of (k := 5) (by decide) (by decide) (by decide) rfl rfl rfl
    · subst h; exact opIn_of (k := 6) (by decide) (by decide) (by decide) rfl rfl rfl
    · subst h; exact opIn_of (k := 7) (by decide) (by decide) (by decide) rfl rfl rfl
    · subst h; exact opIn_of (k := 8) (by decide) (by decide) (by decide) rfl rfl rfl
    · subst h; exact opIn_of (k := 9) (by decide) (by decide) (by decide) rfl rfl rfl
    · subst h; exact opIn_of (k := 10) (by decide) (by decide) (by decide) rfl rfl rfl
    · exact .inr (.inl h)
    · exact .inr (.inr (.inl h))
theorem head_ok (f : F) (hf : f.ok) (hn : f.nodes ≤ 1099511627776) (hl : f.head.1.length ≤ 281474976710656) (σ : AState) (xs : List AV) (hD : DAtL σ.get f.dv xs) :
    RunF RR Tryz.prog n_describe_head [.agg xs] σ (fun u σ' => u = .tuple [.str f.head.1, .str f.head.2] ∧ σ' = σ) := by
  refine RunV.wf fun hW => RunV.forget rfl ?_
  refine runF_intro hmx rf_describe_head ?_
  obtain ⟨op, nm, ar, l, rfl, hop⟩ := ok_op f hf
  obtain ⟨o1, c1, z1, o2, c2, z2, rfl, hA, hL⟩ := F.cells hD
  simp only [F.nodes] at hn
  have hE := sub_push hW (.cells [.int .u8 op, .str nm, .slice o1 ar.length c1 z1, .slice o2 l.length c2 z2] true)
  have hW1 := hW.push (.cells [.int .u8 op, .str nm, .slice o1 ar.length c1 z1, .slice o2 l.length c2 z2] true)
  rcases hop with rfl | rfl | rfl | ⟨n1, n8, n9, k, p, hk, hp, hq⟩
  · simp only [F.head, if_true] at hl ⊢
    simp -implicitDefEqProofs (maxDischargeDepth := 15) only [↓reduceIte, Yr, Ys, Yt, Yz, Wb, Wj, Wk, Wl, Wm, Wo, opA, Wv, Ww, Wx, Wy, Wz, Za, Zb, List.replicate, Zc, Zd, Ze, Vb, Vc, Vd, AV.cells, Vg, partA, Zf, Zg, Zh, Zi, Nat.reduceSub, Zk, Zl, Zq, Zr, binA, eq_self, i_describe_head, c71_0, c71_1, c71_2, c71_3, c71_4, c71_5, c71_6, c71_7, c71_8, c71_9, c71_10, c71_11, c71_12, c71_13, c71_14, c71_15, c71_16, c71_17, c71_18, c71_19, c71_20, show (((1 : Nat) : Int) == 1) = true from rfl]
    refine RunV.to (term_txt_ok _ nm ar (Nat.le_refl _) (by omega) hl _ _ _ _ _ (hA.sub hE)) ?_
    simp -implicitDefEqProofs (maxDischargeDepth := 15) only [Yr, Ys, Yt, Wh, Wo, Wq, Wt, Wu, opA, Wv, Ww, Wx, Wy, Wz, Za, Zb, Vb, true_and, EndOk, resultA, oneOf, Zz, eq_self]
    exact hE
  · have e : (F.mk 8 nm ar l).head = (jn [sForAll, nm] sp, []) := rfl
    rw [e] at hl ⊢
    simp -implicitDefEqProofs (maxDischargeDepth := 15) only [↓reduceIte, Yr, Ys, Yt, Yz, Wa, Wb, Wj, Wk, Wl, Wm, Wo, opA, Wv, Ww, Wx, Wy, Wz, Za, Zb, List.replicate, Zc, Zd, Ze, Vb, Vc, Vd, AV.cells, Vg, partA, Zf, Zg, Zh, Zi, Nat.reduceAdd, Nat.reduceLeDiff, Nat.reduceSub, Zj, Zk, Zl, Zm, Zn, Zo, Zp, Zq, Zr, Zs, binA, fillA, and_self, eq_self, i_describe_head, c71_0, c71_1, c71_2, c71_3, c71_4, c71_5, c71_6, c71_7, c71_8, c71_9, c71_10, c71_11, c71_12, c71_13, c71_14, c71_15, c71_16, c71_17, c71_18, c71_19, c71_20, show (((8 : Nat) : Int) == 1) = false from rfl, show (((8 : Nat) : Int) == 8) = true from rfl]
    refine RunV.to (join_ok (ss := [sForAll, nm]) (strs_new rfl rfl) hl (by omega)) ?_
    simp -implicitDefEqProofs (maxDischargeDepth := 15) only [Yr, Ys, Yt, Wh, Wo, Wq, Wt, Wu, opA, Wv, Ww, Wx, Wy, Wz, Za, Zb, Vb, true_and, EndOk, resultA, oneOf, Zz, eq_self]
    exact hE.trans (sub_push hW1 _)
  · have e : (F.mk 9 nm ar l).head = (jn [sForSome, nm] sp, []) := rfl
    rw [e] at hl ⊢
    simp -implicitDefEqProofs (maxDischargeDepth := 15) only [↓reduceIte, Yr, Ys, Yt, Yz, Wa, Wb, Wj, Wk, Wl, Wm, Wo, opA, Wv, Ww, Wx, Wy, Wz, Za, Zb, List.replicate, Zc, Zd, Ze, Vb, Vc, Vd, AV.cells, Vg, partA, Zf, Zg, Zh, Zi, Nat.reduceAdd, Nat.reduceLeDiff, Nat.reduceSub, Zj, Zk, Zl, Zm, Zn, Zo, Zp, Zq, Zr, Zs, binA, fillA, and_self, eq_self, i_describe_head, c71_0, c71_1, c71_2, c71_3, c71_4, c71_5, c71_6, c71_7, c71_8, c71_9, c71_10, c71_11, c71_12, c71_13, c71_14, c71_15, c71_16, c71_17, c71_18, c71_19, c71_20, show (((9 : Nat) : Int) == 1) = false from rfl, show (((9 : Nat) : Int) == 8) = false from rfl, show (((9 : Nat) : Int) == 9) = true from rfl]
    refine RunV.to (join_ok (ss := [sForSome, nm]) (strs_new rfl rfl) hl (by omega)) ?_
    simp -implicitDefEqProofs (maxDischargeDepth := 15) only [Yr, Ys, Yt, Wh, Wo, Wq, Wt, Wu, opA, Wv, Ww, Wx, Wy, Wz, Za, Zb, Vb, true_and, EndOk, resultA, oneOf, Zz, eq_self]
    exact hE.trans (sub_push hW1 _)
  · have e : (F.mk op nm ar l).head = p.2 := by simp only [F.head]; rw [if_neg n1, if_neg n8, if_neg n9, hq]
    rw [e] at hl ⊢
    have e1 : ((op : Int) == 1) = false := by simp only [beq_eq_false_iff_ne]; omega
    have e8 : ((op : Int) == 8) = false := by simp only [beq_eq_false_iff_ne]; omega
    have e9 : ((op : Int) == 9) = false := by simp only [beq_eq_false_iff_ne]; omega
    simp -implicitDefEqProofs (maxDischargeDepth := 15) only [↓reduceIte, Yr, Ys, Yt, Wa, Wb, Wg, Wj, Wk, Wl, Wm, Wo, Wr, opA, Wv, Ww, Wx, Wy, Wz, Za, Zb, List.replicate, Zc, Zd, Ze, Vb, Vc, Vd, AV.cells, Vg, partA, Zf, Zg, Zi, Nat.reduceSub, Zk, Zl, Zq, binA, eq_self, i_describe_head, c71_0, c71_1, c71_2, c71_3, c71_4, c71_5, c71_6, c71_7, c71_8, c71_9, c71_10, c71_11, c71_12, c71_13, c71_14, c71_15, c71_16, c71_17, c71_18, c71_19, c71_20, e1, e8, e9]
    refine RunV.to (patterns_ok _) ?_
    simp -implicitDefEqProofs (maxDischargeDepth := 15) only [Ys, Yt, Wb, Wu, opA, Wv, Ww, Wx, Wy, Wz, Za, Zb, Vb, Zh, Zi]
    have hW2 := hW1.push (.cells patsL true)
    refine RunV.to (indexFunc_ok hmx (sz := 3) (ld := some 3) rf_slices_IndexFunc_describe_pattern (xs := pats) (q := fun p => p.1 == op) rfl (by omega) (.inr rfl) fun j x hx => ⟨.agg (patCells x), ⟨_, 0, _, _, rfl, Vg, (pats_elem j x hx).1⟩, headS1_ok _ _ x op _ (by rw [Vh Vi, Vg])⟩) ?_
    obtain ⟨_, hk11, hq1, hq2⟩ := pats_elem k p hp
    have hix : ixInt (fun p : Nat × Str × Str => p.1 == op) pats = k := by simp only [ixInt, hk]
    rw [hix]
    have e3 : (0 : Int) ≤ (k : Int) ∧ (k : Int) < ((11 : Nat) : Int) := by omega
    simp -implicitDefEqProofs (maxDischargeDepth := 15) only [Yr, Ys, Yt, Wb, Wj, Wk, Wo, Wu, opA, Wv, Ww, Wx, Wy, Wz, Za, Zb, Vb, Zi]
    refine RunV.to (patterns_ok _) ?_
    simp -implicitDefEqProofs (maxDischargeDepth := 15) only [↓reduceIte, Ys, Yt, Wb, Wu, opA, Wv, Ww, Wx, Wy, Wz, Za, Zb, Vb, Vg, partA, Zi, Zk, and_self, Yf, eq_self, e3, hq1]
    have hW3 := hW2.push (.cells patsL true)
    refine RunV.to (patterns_ok _) ?_
    simp -implicitDefEqProofs (maxDischargeDepth := 15) only [↓reduceIte, Yr, Ys, Yt, Wc, Wh, Wo, Wu, opA, Wv, Wx, Wy, Wz, Za, Zb, Vb, Vg, Vh, Vi, partA, Zk, and_self, true_and, EndOk, resultA, oneOf, Zz, Yf, againOk, eq_self, e3, hq1, hq2]
    exact hE.trans ((sub_push hW1 _).trans ((sub_push hW2 _).trans (sub_push hW3 _)))
theorem ftxts_mem {l : List F} {f : F} (h : f ∈ l) : f.txt ∈ F.txts l := by
  induction l with
  | nil => cases h
  | cons a r ih =>
    simp only [F.txts]
    rcases List.mem_cons.1 h with e | e
    · subst e; simp
    · exact List.mem_cons_of_mem _ (ih e)
theorem text_ok : ∀ (m : Nat) (f : F), f.nodes ≤ m → m ≤ 1099511627776 → f.ok → f.txt.length ≤ 281474976710656 → ∀ (σ : AState) (xs : List AV), DAtL σ.get f.dv xs →
    RunF RR Tryz.prog n_describe_text [.agg xs] σ (fun u σ' => u = .str f.txt ∧ σ' = σ) := by
  intro m
  induction m using Nat.strongRecOn with
  | _ m ih =>
  intro f hf hm hok hb σ xs hD
  refine RunV.wf fun hW => RunV.forget rfl ?_
  refine runF_intro hmx rf_describe_text ?_
  have hlx : 4 ≤ xs.length := by rw [hD.length, F.dv_len]; omega
  have htx : xs.take 4 = xs := List.take_of_length_le (by rw [hD.length, F.dv_len]; omega)
  have hE := sub_push hW (.cells xs true)
  have hW1 := hW.push (.cells xs true)
  have hD1 := DAtL.sub hE _ _ hD
  obtain ⟨op, nm, ar, l⟩ := f
  have hok' := hok
  simp only [F.ok] at hok
  have hshape : l = [] ∨ (∃ a, l = [a]) ∨ ∃ a b, l = [a, b] := by
    obtain ⟨_, ⟨_, _, _, _, q⟩ | ⟨_, q⟩ | ⟨_, q⟩ | ⟨_, q⟩ | ⟨_, _, q⟩⟩ := hok
    · exact .inl q
    · exact .inl q
    · exact .inr (.inl q)
    · exact .inr (.inr q)
    · exact .inr (.inl q)
  have hoks := hok.1
  have hhl : (F.mk op nm ar l).head.1.length ≤ 281474976710656 := by
    refine Nat.le_trans ?_ hb
    rcases hshape with rfl | ⟨a, rfl⟩ | ⟨a, b, rfl⟩
    · exact Nat.le_refl _
    · exact jn_le_mem (by simp)
    · exact jn_le_mem (by simp)
  simp only [F.nodes] at hf
  have hhead := fun σ' (hs : Sub σ.get σ'.get) => head_ok (.mk op nm ar l) hok' (by simp only [F.nodes]; omega) hhl σ' xs (DAtL.sub hs _ _ hD)
  obtain ⟨o1, c1, z1, o2, c2, z2, rfl, hA, hL⟩ := F.cells hD
  simp -implicitDefEqProofs (maxDischargeDepth := 15) only [↓reduceIte, Yr, Ys, Yt, Wb, Wj, Wk, Wo, opA, Wv, Ww, Wx, Wy, Wz, Za, Zb, List.replicate, Zc, Zd, Ze, Vb, Vc, Vd, AV.cells, Vg, partA, Zf, Zg, Zh, Zi, Nat.reduceAdd, Nat.reduceSub, Zj, Zk, Zm, Zo, Zt, i_describe_text, c45_0, c45_1, c45_2, c45_3, c45_4, c45_5, c45_6, c45_7, c45_8, c45_9, c45_10, c45_11, c45_12, c45_13, c45_14, c45_15, c45_16]
  refine RunV.to (hhead _ hE) ?_
  have hL1 := hL.sub hE
  rcases hshape with rfl | ⟨a, rfl⟩ | ⟨a, b, rfl⟩
  · simp -implicitDefEqProofs (maxDischargeDepth := 15) only [↓reduceIte, Yr, Ys, Yt, Wa, Wg, Wh, Wj, Wk, Wl, Wm, Wo, Wr, Wu, opA, Wv, Ww, Wx, Wy, Wz, Za, Zb, Vb, Vg, partA, Zg, Zk, Zq, Zr, binA, EndOk, resultA, oneOf, Zz, eq_self, show (((0 : Nat) : Int) == 1) = false from rfl, show (((0 : Nat) : Int) == 2) = false from rfl]
    exact ⟨rfl, hE⟩
  · obtain ⟨rfl, i, off, cs, w, rfl, hg, hl3, xs, hxs, hd⟩ := hL1.elem (k := 0) (t := a) rfl
    simp only [Nat.zero_mul, Nat.add_zero] at hl3 hxs
    have hi := hW1.lt hg
    simp only [List.length_cons, List.length_nil, Nat.zero_add] at hg hi
    simp only [F.nodess] at hf
    have ha : a.ok := by simpa only [F.oks, and_true] using hoks
    have hba : a.txt.length ≤ 281474976710656 := Nat.le_trans (jn_le_mem (l := [(F.mk op nm ar [a]).head.1, a.txt]) (by simp)) hb
    simp -implicitDefEqProofs (maxDischargeDepth := 15) only [↓reduceIte, Yr, Ys, Yt, Yz, Wb, Wj, Wk, Wl, Wm, Wo, Wu, opA, Wv, Ww, Wx, Wy, Wz, Za, Zb, Vb, Vg, partA, Zf, Zg, Zh, Zi, Zk, Zl, Zq, Zr, binA, and_self, eq_self, Yl, Ym, show (((1 : Nat) : Int) == 1) = true from rfl, show ((0 : Int) ≤ 0 ∧ (0 : Int) < ((1 : Nat) : Int)) from by decide, hg, hl3, hxs]
    refine RunV.to (ih a.nodes (by omega) a (Nat.le_refl _) (by omega) ha hba _ _ hd) ?_
    simp -implicitDefEqProofs (maxDischargeDepth := 15) only [↓reduceIte, Ys, Yt, Wb, Wu, opA, Wv, Ww, Wx, Wy, Wz, Za, Zb, Zc, Zd, Ze, Vb, Vc, Vd, AV.cells, Zf, Zg, Zh, Zi, Nat.reduceAdd, Nat.reduceLeDiff, Zj, Zk, Zm, Zn, Zo, Zp, Zs, fillA, and_self, eq_self]
    refine RunV.to (join_ok (ss := [(F.mk op nm ar [a]).head.1, a.txt]) (strs_new rfl rfl) hb (by omega)) ?_
    simp -implicitDefEqProofs (maxDischargeDepth := 15) only [Yr, Ys, Yt, Wh, Wo, Wq, Wt, Wu, opA, Wv, Wx, Wy, Wz, Za, Zb, Vb, EndOk, resultA, oneOf, Zz]
    exact ⟨rfl, hE.trans (sub_push hW1 _)⟩
  · obtain ⟨rfl, i, off, cs, w, rfl, hg, hl3, xs, hxs, hd⟩ := hL1.elem (k := 0) (t := a) rfl
    obtain ⟨_, i', off', cs', w', e', hg', hl3', xs', hxs', hd'⟩ := hL1.elem (k := 1) (t := b) rfl
    cases e'
    rw [hg] at hg'; cases hg'
    simp only [Nat.zero_mul, Nat.add_zero] at hl3 hxs
    simp only [Nat.one_mul] at hl3' hxs'
    have hi := hW1.lt hg
    simp only [List.length_cons, List.length_nil, Nat.zero_add, Nat.reduceAdd] at hg hi
    simp only [F.nodess] at hf
    simp only [F.oks] at hoks
    have hba : a.txt.length ≤ 281474976710656 := Nat.le_trans (jn_le_mem (l := [(F.mk op nm ar [a, b]).head.1, a.txt, (F.mk op nm ar [a, b]).head.2, b.txt]) (by simp)) hb
    have hbb : b.txt.length ≤ 281474976710656 := Nat.le_trans (jn_le_mem (l := [(F.mk op nm ar [a, b]).head.1, a.txt, (F.mk op nm ar [a, b]).head.2, b.txt]) (by simp)) hb
    simp -implicitDefEqProofs (maxDischargeDepth := 15) only [↓reduceIte, Yr, Ys, Yt, Yz, Wa, Wb, Wj, Wk, Wl, Wm, Wo, Wu, opA, Wv, Ww, Wx, Wy, Wz, Za, Zb, Vb, Vg, partA, Zf, Zg, Zh, Zi, Nat.reduceAdd, Zk, Zl, Zq, Zr, binA, and_self, eq_self, Yl, Ym, show (((2 : Nat) : Int) == 1) = false from rfl, show (((2 : Nat) : Int) == 2) = true from rfl, show ((0 : Int) ≤ 0 ∧ (0 : Int) < ((2 : Nat) : Int)) from by decide, show ((0 : Int) ≤ 1 ∧ (1 : Int) < ((2 : Nat) : Int)) from by decide, show (1 : Int).toNat = 1 from rfl, Nat.one_mul, hg, hl3, hxs, hl3', hxs']
    refine RunV.to (ih a.nodes (by omega) a (Nat.le_refl _) (by omega) hoks.1 hba _ _ hd) ?_
    simp -implicitDefEqProofs (maxDischargeDepth := 15) only [↓reduceIte, Wb, Wc, Wu, opA, Wv, Ww, Wx, Wy, Wz, Za, Zb, Vg, partA, Zh, Zi, Zq, Zr, true_and, againOk, eq_self, hg, hl3', hxs']
    refine RunV.to (ih b.nodes (by omega) b (Nat.le_refl _) (by omega) hoks.2.1 hbb _ _ hd') ?_
    simp -implicitDefEqProofs (maxDischargeDepth := 15) only [↓reduceIte, Ys, Yt, Wb, Wu, opA, Wv, Ww, Wx, Wy, Wz, Za, Zb, Zc, Zd, Ze, Vb, Vc, Vd, AV.cells, Zf, Zg, Zh, Zi, Nat.reduceAdd, Nat.reduceLeDiff, Zj, Zk, Zm, Zn, Zo, Zp, Zs, fillA, and_self, eq_self]
    refine RunV.to (join_ok (ss := [(F.mk op nm ar [a, b]).head.1, a.txt, (F.mk op nm ar [a, b]).head.2, b.txt]) (strs_new rfl rfl) hb (by omega)) ?_
    simp -implicitDefEqProofs (maxDischargeDepth := 15) only [Yr, Ys, Yt, Wh, Wo, Wq, Wt, Wu, opA, Wv, Wx, Wy, Wz, Za, Zb, Vb, EndOk, resultA, oneOf, Zz]
    exact ⟨rfl, hE.trans (sub_push hW1 _)⟩
theorem form_ok (f : F) (hr : f.right = true) (hs : f.sane) (hb : f.txt.length ≤ 281474976710656) (σ : AState) (xs : List AV) (hD : DAtL σ.get f.dv xs) :
    RunF RR Tryz.prog n_describe_Form [.agg xs] σ (fun u σ' => u = .tuple [.str f.txt, .int .i64 0] ∧ σ' = σ) := by
  refine RunV.wf fun hW => RunV.forget rfl ?_
  refine runF_intro hmx rf_describe_Form ?_
  have hlx : 4 ≤ xs.length := by rw [hD.length, F.dv_len]; omega
  have htx : xs.take 4 = xs := List.take_of_length_le (by rw [hD.length, F.dv_len]; omega)
  have hE := sub_push hW (.cells xs true)
  have hD1 := DAtL.sub hE _ _ hD
  have hr' := hr
  simp only [F.right, Bool.and_eq_true, decide_eq_true_eq] at hr'
  simp -implicitDefEqProofs (maxDischargeDepth := 15) only [↓reduceIte, Yr, Ys, Yt, Wb, Wj, Wk, Wo, opA, Wv, Ww, Wx, Wy, Wz, Za, Zb, List.replicate, Zc, Zd, Ze, Vb, Vc, Vd, AV.cells, Vg, partA, Zf, Zg, Zh, Zi, Nat.reduceSub, Zk, Zm, i_describe_Form, c53_0, c53_1, c53_2, c53_3, c53_4, c53_5, c53_6, hlx, htx]
  refine RunV.to (right_ok f (by omega) hs _ _ hD1) ?_
  rw [hr]
  simp -implicitDefEqProofs (maxDischargeDepth := 15) only [↓reduceIte, Yr, Ys, Yt, Wa, Wb, Wg, Wj, Wk, Wl, Wo, Wu, opA, Wv, Ww, Wx, Wy, Wz, Za, Zb, Vb, Vg, partA, Zh, Zi, Zk, Zm, Yb, hlx, htx]
  refine RunV.to (text_ok _ f (Nat.le_refl _) (by omega) (F.shape_ok f hr'.2) hb _ _ hD1) ?_
  simp -implicitDefEqProofs (maxDischargeDepth := 15) only [Yr, Ys, Yt, Wh, Wo, Wu, opA, Wv, Ww, Wx, Wy, Wz, Za, Zb, Vb, true_and, EndOk, resultA, oneOf, Zz, eq_self]
  exact hE
end Go.Am
namespace Go.Am
open Go.RowKit Go.Proofs Do
set_option maxRecDepth 100000
theorem RunF.closedA {Rs : Code → AC → Prop} {P : Program} {f : Nat} {args : List AV} {v : AV} (hv : AV.flat v = true) (hargs : AV.flatL args = true) (h : RunF Rs P f args { get := fun _ => none, next := P.globals.size } (fun u _ => u = v)) (σ : AState) :
    RunF Rs P f args σ (fun u σ' => u = v ∧ σ' = σ) := fun w0 ρ D cf cargs w hf ha hS => by
  have h0 : SRel Rs P w (fun g => if g < P.globals.size then ρ g else none) ([], []) { get := fun _ => none, next := P.globals.size } w := {
    below := Below.refl _ _
    dom := fun i hi => ⟨by have hi' : P.globals.size ≤ i := hi; simp [show ¬ i < P.globals.size by omega], rfl⟩
    lt := fun i l e => by
      split at e
      · exact hS.lt i l e
      · cases e
    blk := fun i b l e => by cases e
    sep := fun i j b c l m _ e => by cases e
    defs := fun d hd => by cases hd
    nodup := List.nodup_nil
    loops := fun d hd => by cases hd
    glob := fun g hg => by
      obtain ⟨l, a, b⟩ := hS.glob g hg
      exact ⟨l, by simp [hg, a], b⟩ }
  have hf' : VRel (fun g => if g < P.globals.size then ρ g else none) (.func (.func f) [] []) cf := VRel.flat _ _ rfl hf
  have ha' : VRelL (fun g => if g < P.globals.size then ρ g else none) args cargs.toList := VRelL.flat _ _ hargs ha
  exact (h w _ ([], []) cf cargs w hf' ha' h0).mono fun cv w' ⟨u, ρ', σ', hu, _, _, hr, hS'⟩ => by
    subst hu
    exact ⟨u, ρ, σ, ⟨rfl, rfl⟩, Nat.le_refl _, RX.refl _ _, VRel.flat _ _ hv hr, hS.garbage hS'.below⟩
noncomputable def evA (f : Nat) (args : List AV) : Option (AV × EState) := evCall tabT.get (primE prT) 200 200 (.func (.func f) [] []) args ⟨.nil, Tryz.prog.globals.size⟩
theorem evA_ok {f : Nat} {args : List AV} {v : AV} {τ : EState} (hv : AV.flat v = true) (hargs : AV.flatL args = true) (h : evA f args = some (v, τ)) (σ : AState) : RunF RR Tryz.prog f args σ (fun u σ' => u = v ∧ σ' = σ) :=
  RunF.closedA hv hargs ((callOk 200 200 _ _ _ _ _ h).mono fun u σ' hh => hh.1) σ
def itoaS (n : Nat) : Str := if n < 10 then [UInt8.ofNat (48 + n)] else [UInt8.ofNat (48 + n / 10), UInt8.ofNat (48 + n % 10)]
abbrev sLevel : Str := [108, 101, 118, 101, 108, 32]
def isStr (s : Str) : Option (AV × EState) → Bool
  | some (.str t, _) => t == s
  | _ => false
theorem isStr_ok {s : Str} {r : Option (AV × EState)} (h : isStr s r = true) : ∃ τ, r = some (.str s, τ) := by
  unfold isStr at h
  split at h
  · rename_i t τ; exact ⟨τ, by rw [eq_of_beq h]⟩
  · cases h
def isNum (n : Nat) : Option (AV × EState) → Bool
  | some (.tuple [.int .i64 m, .nilIface], _) => m == n
  | _ => false
theorem isNum_ok {n : Nat} {r : Option (AV × EState)} (h : isNum n r = true) : ∃ τ, r = some (.tuple [.int .i64 n, .nilIface], τ) := by
  unfold isNum at h
  split at h
  · rename_i m τ; exact ⟨τ, by rw [eq_of_beq h]⟩
  · cases h
theorem itoa_ev : ((List.range 48).all fun n => isStr (itoaS n) (evA n_strconv_Itoa [.int .i64 n])) = true := by kernel_rfl
theorem atoi_ev : ((List.range 48).all fun n => isNum n (evA n_strconv_Atoi [.str (itoaS n)])) = true := by kernel_rfl
theorem itoa_ok {n : Nat} (hn : n < 48) (σ : AState) : RunF RR Tryz.prog n_strconv_Itoa [.int .i64 n] σ (fun u σ' => u = .str (itoaS n) ∧ σ' = σ) := by
  obtain ⟨τ, h⟩ := isStr_ok (List.all_eq_true.1 itoa_ev n (by simpa using hn))
  exact evA_ok rfl rfl h σ
theorem atoi_ok {n : Nat} (hn : n < 48) (σ : AState) : RunF RR Tryz.prog n_strconv_Atoi [.str (itoaS n)] σ (fun u σ' => u = .tuple [.int .i64 n, .nilIface] ∧ σ' = σ) := by
  obtain ⟨τ, h⟩ := isNum_ok (List.all_eq_true.1 atoi_ev n (by simpa using hn))
  exact evA_ok rfl rfl h σ
end Go.Am
namespace Go.Am
open Go.RowKit Go.Proofs Do
set_option maxRecDepth 100000
abbrev sColon : Str := [58, 32]
def lineS (p : Nat × Str) : Str := sLevel ++ itoaS p.1 ++ sColon ++ p.2
theorem itoaS_len (n : Nat) : (itoaS n).length ≤ 2 := by unfold itoaS; split <;> simp
abbrev lookA (io il : Nat) : AV := .func (.func n_describe_OutlineS1) [] [.ptr (some (io, 0)), .ptr (some (il, 0))]
structure OutSt (σB : AState) (io il : Nat) (σ : AState) (lines : List Str) (o : Option (Nat × Nat)) (n : Nat) (c : Option Nat) (z : Nat) : Prop where
  out : σ.get io = some (.cells [.slice o n c z] true)
  look : σ.get il = some (.cells [lookA io il] true)
  grown : Grown σB σ o n c z 1 (lines.map .str)
  ne : io ≠ il
  geo : σB.next ≤ io
  gel : σB.next ≤ il
structure Kp (io : Nat) (σ σ' : AState) : Prop where
  le : σ.next ≤ σ'.next
  keep : ∀ j b, j ≠ io → (∀ ss : List Str, b ≠ .cells (ss.map .str) true) → σ.get j = some b → σ'.get j = some b
theorem Kp.refl (io : Nat) (σ : AState) : Kp io σ σ := ⟨Nat.le_refl _, fun _ _ _ _ e => e⟩
theorem Kp.trans {io : Nat} {a b c : AState} (h : Kp io a b) (k : Kp io b c) : Kp io a c := ⟨Nat.le_trans h.le k.le, fun j x hj hs e => k.keep j x hj hs (h.keep j x hj hs e)⟩
theorem Kp.push (io : Nat) {σ : AState} (h : σ.Wf) (b : ABlk) : Kp io σ (σ.push b) := ⟨Nat.le_succ _, fun j x _ _ e => sub_push h b j x e⟩
theorem OutSt.push {σB : AState} {io il : Nat} {σ : AState} {lines : List Str} {o : Option (Nat × Nat)} {n : Nat} {c : Option Nat} {z : Nat} (h : OutSt σB io il σ lines o n c z) (b : ABlk) : OutSt σB io il (σ.push b) lines o n c z :=
  ⟨sub_push h.grown.wf b _ _ h.out, sub_push h.grown.wf b _ _ h.look, h.grown.push b, h.ne, h.geo, h.gel⟩
theorem slice_ne_strs {a : AV} {r : List AV} {w : Bool} (ha : ∀ s, a ≠ .str s) (ss : List Str) : ABlk.cells (a :: r) w ≠ .cells (ss.map .str) true := by
  intro h
  cases ss with
  | nil => simp at h
  | cons x y => simp at h; exact ha x h.1.1
theorem ne_of_strs {σ : AState} {i j : Nat} {b : ABlk} {ss : List Str} (hi : σ.get i = some (.cells (ss.map .str) true)) (hj : σ.get j = some b) (h : ∀ ss : List Str, b ≠ .cells (ss.map .str) true) : j ≠ i := by
  intro e; subst e; rw [hi] at hj; cases hj; exact h ss rfl
theorem Grown.strs_at {σ0 σ : AState} {o : Option (Nat × Nat)} {n : Nat} {c : Option Nat} {z : Nat} {ss : List Str} (h : Grown σ0 σ o n c z 1 (ss.map .str)) {j : Nat} {b : ABlk} (hj : σ.get j = some b) (hb : ∀ ss : List Str, b ≠ .cells (ss.map .str) true) : ∀ i, o = some (i, 0) → j ≠ i := by
  intro i hi
  rcases h.at' with ⟨q, _⟩ | ⟨_, _, i', q, _, hg⟩
  · rw [q] at hi; cases hi
  · rw [q] at hi; cases hi; exact ne_of_strs hg hj hb
theorem Grown.set {σ0 σ : AState} {o : Option (Nat × Nat)} {n : Nat} {c : Option Nat} {z : Nat} {ss : List Str} (h : Grown σ0 σ o n c z 1 (ss.map .str)) {j : Nat} {b b' : ABlk} (hj : σ.get j = some b) (hb : ∀ ss : List Str, b ≠ .cells (ss.map .str) true) (hl : σ0.next ≤ j) : Grown σ0 (σ.set j b') o n c z 1 (ss.map .str) :=
  ⟨h.wf0, h.wf.set (h.wf.lt hj) _, fun i x e => by rw [Vl (by have := h.wf0.lt e; omega)]; exact h.keep i x e, h.le, h.len, h.at'.imp_right fun ⟨h1, h2, i, h3, h4, h5⟩ => ⟨h1, h2, i, h3, h4, by
    rw [Vl (Ne.symm (ne_of_strs h5 hj hb))]; exact h5⟩⟩
theorem outls_take {n : Nat} : ∀ {l : List F} {k : Nat} {t : F}, l[k]? = some t → F.outls n (l.take (k + 1)) = F.outls n (l.take k) ++ t.outl n
  | [], k, t, h => by simp at h
  | a :: r, 0, t, h => by simp only [List.getElem?_cons_zero, Option.some.injEq] at h; subst h; simp [F.outls]
  | a :: r, k + 1, t, h => by
    simp only [List.getElem?_cons_succ] at h
    simp only [List.take_succ_cons, F.outls, outls_take h, List.append_assoc]
theorem oks_mem {l : List F} (h : F.oks l) {f : F} (hf : f ∈ l) : f.ok := by
  induction l with
  | nil => cases hf
  | cons a r ih =>
    simp only [F.oks] at h
    rcases List.mem_cons.1 hf with e | e
    · subst e; exact h.1
    · exact ih h.2 e
theorem depths_mem {l : List F} {f : F} (hf : f ∈ l) : f.depth ≤ F.depths l := by
  induction l with
  | nil => cases hf
  | cons a r ih =>
    simp only [F.depths]
    rcases List.mem_cons.1 hf with e | e
    · subst e; omega
    · have := ih e; omega
mutual
theorem outl_len : ∀ (f : F) (n : Nat), (f.outl n).length ≤ f.nodes
  | .mk op nm ar l, n => by have := outls_len l (n + 1); simp only [F.outl, F.nodes, List.length_cons]; omega
theorem outls_len : ∀ (l : List F) (n : Nat), (F.outls n l).length ≤ F.nodess l
  | [], n => by simp [F.outls]
  | f :: r, n => by have := outl_len f n; have := outls_len r n; simp only [F.outls, F.nodess, List.length_append]; omega
end
def Heads (B : Nat) (l : List (Nat × Str)) : Prop := ∀ p ∈ l, p.2.length ≤ B
theorem outlineS1_ok {σB : AState} {io il : Nat} : ∀ (m : Nat) (f : F), f.nodes ≤ m → m ≤ 1048576 → f.ok → ∀ (n : Nat), n + f.depth ≤ 47 → Heads 281474976000000 (f.outl n) →
    ∀ (σ : AState) (lines : List Str) (xs : List AV) (o : Option (Nat × Nat)) (k : Nat) (c : Option Nat) (z : Nat), OutSt σB io il σ lines o k c z → k + f.nodes ≤ 4194304 → DAtL σB.get f.dv xs →
    RunV RR Tryz.prog (lookA io il) [.agg xs, .int .i64 n] σ (fun u σ' => ∃ o' c' z', OutSt σB io il σ' (lines ++ (f.outl n).map lineS) o' (k + (f.outl n).length) c' z' ∧ Kp io σ σ') := by
  intro m
  induction m using Nat.strongRecOn with
  | _ m ih =>
  intro f hf hm hok n hnd hH σ lines xs o k c z hO hk hD
  refine runF_intro hmx rf_describe_OutlineS1 ?_
  have hW := hO.grown.wf
  have hO1 := hO.push (.cells xs true)
  have hsB1 : Sub σB.get (σ.push (.cells xs true)).get := hO1.grown.keep
  have hhead := head_ok f hok (by omega) (by
    obtain ⟨op, nm, ar, l⟩ := f
    have := hH (n, (F.mk op nm ar l).head.1) (by simp [F.outl])
    simp only at this
    omega) (σ.push (.cells xs true)) xs (DAtL.sub hsB1 _ _ hD)
  obtain ⟨op, nm, ar, l⟩ := f
  have hHh := hH (n, (F.mk op nm ar l).head.1) (by simp [F.outl])
  simp only at hHh
  obtain ⟨o1, c1, z1, o2, c2, z2, rfl, hA, hL⟩ := F.cells hD
  simp only [F.nodes] at hf hk
  simp only [F.depth] at hnd
  simp -implicitDefEqProofs (maxDischargeDepth := 15) only [↓reduceIte, Yr, Ys, Yt, Wb, Wj, Wk, Wo, opA, Wv, Ww, Wx, Wy, Wz, Za, Zb, List.replicate, Zc, Zd, Vb, Vc, Vd, AV.cells, Vg, partA, Zf, Zg, Zh, Zi, Nat.reduceAdd, Nat.reduceSub, Zj, Zk, Zm, Zo, Zt, i_describe_OutlineS1, c47_0, c47_1, c47_2, c47_3, c47_4, c47_5, c47_6, c47_7, c47_8, c47_9, c47_10, c47_11, c47_12, c47_13]
  refine RunV.to hhead ?_
  have hio1 := hO1.out
  have hil1 := hO1.look
  simp -implicitDefEqProofs (maxDischargeDepth := 15) only [Yr, Ys, Yt, Wb, Wj, Wk, Wo, Wu, opA, Wv, Ww, Wx, Wy, Wz, Za, Zb, Vb, partA, Zh, Zi, Zq, Zr, hio1]
  refine RunV.to (itoa_ok (n := n) (by omega) _) ?_
  have hi := itoaS_len n
  have q1 : 6 + (itoaS n).length < 9223372036854775808 := by omega
  have q2 : (itoaS n).length + 1 + 1 + 1 + 1 + 1 + 1 + 2 < 9223372036854775808 := by omega
  have q3 : (itoaS n).length + 2 + 1 + 1 + 1 + 1 + 1 + 1 + (F.mk op nm ar l).head.1.length < 9223372036854775808 := by omega
  simp -implicitDefEqProofs (maxDischargeDepth := 15) only [↓reduceIte, Ys, Yt, Wc, Wu, opA, Wv, Ww, Wx, Wy, Wz, Za, Zb, Zc, Zd, Ze, Vb, Vc, Vd, AV.cells, Vg, partA, Zf, Zg, Zh, Zi, Nat.reduceAdd, Zj, Zk, Zm, Zn, Zo, Zp, Zq, Zs, Zt, binA, fillA, and_self, true_and, lenA, firstA, againOk, eq_self, hio1, q1, q2, q3, List.length_append]
  have hO2 := hO1.push (.cells [.str (108 :: 101 :: 118 :: 101 :: 108 :: 32 :: (itoaS n ++ [58, 32] ++ (F.mk op nm ar l).head.1))] true)
  obtain ⟨i', es, he, hG3, hle3, hk3⟩ := hO2.grown.append (bytes := 16) (xs := [.str (108 :: 101 :: 118 :: 101 :: 108 :: 32 :: (itoaS n ++ [58, 32] ++ (F.mk op nm ar l).head.1))]) (by omega) rfl rfl (decide_eq_true (by omega))
  have hbox : ((σ.push (.cells [.int .u8 op, .str nm, .slice o1 ar.length c1 z1, .slice o2 l.length c2 z2] true)).push (.cells [.str (108 :: 101 :: 118 :: 101 :: 108 :: 32 :: (itoaS n ++ [58, 32] ++ (F.mk op nm ar l).head.1))] true)).get σ.next = some (.cells [.int .u8 op, .str nm, .slice o1 ar.length c1 z1, .slice o2 l.length c2 z2] true) := by
    rw [Vh Vi, Vg]
  have hKp2 : Kp io σ ((σ.push (.cells [.int .u8 op, .str nm, .slice o1 ar.length c1 z1, .slice o2 l.length c2 z2] true)).push (.cells [.str (108 :: 101 :: 118 :: 101 :: 108 :: 32 :: (itoaS n ++ [58, 32] ++ (F.mk op nm ar l).head.1))] true)) := (Kp.push io hW _).trans (Kp.push io hO1.grown.wf _)
  generalize hσ2 : (σ.push (.cells [.int .u8 op, .str nm, .slice o1 ar.length c1 z1, .slice o2 l.length c2 z2] true)).push (.cells [.str (108 :: 101 :: 118 :: 101 :: 108 :: 32 :: (itoaS n ++ [58, 32] ++ (F.mk op nm ar l).head.1))] true) = σ2 at *
  have hio3 := hk3 io _ (hO2.grown.strs_at hO2.out (slice_ne_strs (by simp))) hO2.out
  have hil3 := hk3 il _ (hO2.grown.strs_at hO2.look (slice_ne_strs (by simp))) hO2.look
  have hbox3 := hk3 σ.next _ (hO2.grown.strs_at hbox (slice_ne_strs (by simp))) hbox
  have hKp3 : Kp io σ2 (σ2.app es) := ⟨hle3, fun j b hj hb e => hk3 j b (hO2.grown.strs_at e hb) e⟩
  have hne : σ.next ≠ io := by have := hW.lt hO.out; omega
  have hline : lines.map .str ++ [AV.str (108 :: 101 :: 118 :: 101 :: 108 :: 32 :: (itoaS n ++ [58, 32] ++ (F.mk op nm ar l).head.1))] = (lines ++ [lineS (n, (F.mk op nm ar l).head.1)]).map .str := by
    rw [List.map_append]; rfl
  rw [hline] at hG3
  generalize hσ3 : σ2.app es = σ3 at *
  have hO4 : OutSt σB io il (σ3.set io (.cells [.slice (some (i', 0)) (k + 1) none 1] true)) (lines ++ [lineS (n, (F.mk op nm ar l).head.1)]) (some (i', 0)) (k + 1) none 1 :=
    ⟨Vk, by rw [Vl (Ne.symm hO.ne)]; exact hil3, hG3.set hio3 (slice_ne_strs (by simp)) hO.geo, hO.ne, hO.geo, hO.gel⟩
  have hKp4 : Kp io σ (σ3.set io (.cells [.slice (some (i', 0)) (k + 1) none 1] true)) := hKp2.trans (hKp3.trans ⟨Nat.le_refl _, fun j b hj _ e => by rw [Vl hj]; exact e⟩)
  simp -implicitDefEqProofs (maxDischargeDepth := 15) only [↓reduceIte, Yr, Ys, Yt, Wj, Wk, Wm, Wo, opA, Wv, Ww, Wx, Wy, Wz, Va, Za, Zb, Zd, Ze, Vb, Vc, Ve, AV.cells, Vl, partA, Zf, Zg, Zj, Zk, Zn, Zp, Zq, Zr, Zs, putL, allOne, Zu, Zv, AV.one, Zy, and_self, eq_self, ne_eq, Yo, he, hσ3, hio3, hbox3, hne]
  have hb4 : (σ3.set io (.cells [.slice (some (i', 0)) (k + 1) none 1] true)).get σ.next = some (.cells [.int .u8 op, .str nm, .slice o1 ar.length c1 z1, .slice o2 l.length c2 z2] true) := by rw [Vl hne]; exact hbox3
  generalize hσ4 : σ3.set io (.cells [.slice (some (i', 0)) (k + 1) none 1] true) = σ4 at *
  try simp -implicitDefEqProofs (maxDischargeDepth := 15) only [↓reduceIte, Yr, Ys, Yt, Yu, Yv, Yw, Yx, Yy, Yz, Wa, Wb, Wc, Wd, We, Wf, Wg, Wh, Wi, Wj, Wk, Wl, Wm, Wn, Wo, Wp, Wq, Wr, Ws, Wt, Wu, opA, Wv, Ww, Wx, Wy, Wz, Va, Za, Zb, List.replicate, Zc, Zd, Ze, Vb, Vc, Vd, Ve, Vf, AV.cells, Vg, Vh, Vi, Vj, AState.set_next, AState.kill_next, Vk, Vl, Vm, Vn, Vo, Vp, Vq, Vr, Vs, Vt, partA, Zf, Zg, Zh, Zi, if_true, if_false, Nat.reduceAdd, Nat.reduceLeDiff, Nat.reduceSub, Zj, Nat.zero_le, Zk, Zl, Zm, Zn, Zo, Zp, Zq, Zr, Zs, Zt, binA, eqA, kEq, nilEq, fillA, putL, allOne, Zu, Zv, AV.one, Zw, Zx, Zy, and_self, and_true, true_and, lenA, firstA, EndOk, resultA, oneOf, Zz, Ya, Yb, Yc, Yd, Ye, reduceCtorEq, Yf, Yg, natOf, upTo, bMax, bHigh, bLow, boundsA, evO, Yh, Yi, againOk, Vu, Vv, Vw, Yj, Yk, eq_self, Yl, Ym, Yn, setPs, or_true, true_or, false_or, or_false, ne_eq, Yo, Vx, Vy, Yp, Yq, i_describe_OutlineS1, c47_0, c47_1, c47_2, c47_3, c47_4, c47_5, c47_6, c47_7, c47_8, c47_9, c47_10, c47_11, c47_12, c47_13, hb4]
  have hlen := nodess_len l
  have hoks : F.oks l := by simp only [F.ok] at hok; exact hok.1
  refine wp_loop (fun ts σ' m => ∃ (j : Nat) (o' : Option (Nat × Nat)) (c' : Option Nat) (z' : Nat), OutSt σB io il σ' (lines ++ ((n, (F.mk op nm ar l).head.1) :: F.outls (n + 1) (l.take j)).map lineS) o' (k + 1 + (F.outls (n + 1) (l.take j)).length) c' z' ∧ Kp io σ σ' ∧ j + m = l.length ∧
    ∃ j0 j2 j4 j5 j6 j7 j8 j9 j10 j11 j12 j13 j14 j15 j16 j17 j18 j19 j20 j21 j22 j23 j24 j28 j29 j30 j31 j32 j33 j34 j35 j36 : AV, ts = [j0, .int .i64 n, j2, .ptr (some (il, 0)), j4, j5, j6, j7, j8, j9, j10, j11, j12, j13, j14, j15, j16, j17, j18, j19, j20, j21, j22, j23, j24, .slice o2 l.length c2 z2, .int .i64 l.length, .int .i64 j, j28, j29, j30, j31, j32, j33, j34, j35, j36]) l.length ⟨0, _, _, _, by simpa [F.outls] using hO4, hKp4, by omega, _, _, _, _, _, _, _, _, _, _, _, _, _, _, _, _, _, _, _, _, _, _, _, _, _, _, _, _, _, _, _, _, rfl⟩ ?_
  rintro m' ts σ' ⟨j, o', c', z', hOj, hKj, hjm, j0, j2, j4, j5, j6, j7, j8, j9, j10, j11, j12, j13, j14, j15, j16, j17, j18, j19, j20, j21, j22, j23, j24, j28, j29, j30, j31, j32, j33, j34, j35, j36, rfl⟩
  by_cases hlt : j < l.length
  · obtain ⟨t, ht, htm⟩ := get_lt (l := l) (k := j) hlt
    obtain ⟨rfl, i, off, cs, w, rfl, hg, hlen3, xs, hxs, hd2⟩ := hL.elem ht
    have hgi := hOj.grown.keep _ _ hg
    have hnt := nodes_mem htm
    have hdt := depths_mem htm
    have htok := oks_mem hoks htm
    have hjl := outls_len (l.take j) (n + 1)
    have htk : F.nodess (l.take (j + 1)) ≤ F.nodess l := by
      have : ∀ (l : List F) (j : Nat), F.nodess (l.take j) ≤ F.nodess l := by
        intro l
        induction l with
        | nil => intro j; simp
        | cons a r ih => intro j; cases j with
          | zero => simp [F.nodess]
          | succ j => simp only [List.take_succ_cons, F.nodess]; have := ih j; omega
      exact this l _
    have htk2 : F.nodess (l.take (j + 1)) = F.nodess (l.take j) + t.nodes := by
      have : ∀ (l : List F) (j : Nat) (t : F), l[j]? = some t → F.nodess (l.take (j + 1)) = F.nodess (l.take j) + t.nodes := by
        intro l
        induction l with
        | nil => intro j t h; simp at h
        | cons a r ih => intro j t h; cases j with
          | zero => simp only [List.getElem?_cons_zero, Option.some.injEq] at h; subst h; simp [F.nodess]
          | succ j => simp only [List.getElem?_cons_succ] at h; simp only [List.take_succ_cons, F.nodess, ih j t h]; omega
      exact this l j t ht
    have hi := hOj.grown.wf.lt hgi
    have hd : decide ((j : Int) < l.length) = true := decide_eq_true (by omega)
    have e1 : (0 : Int) ≤ (j : Int) ∧ (j : Int) < (l.length : Int) := by omega
    obtain ⟨op', nm', ar', l'⟩ := t
    have hd3 := hd2
    obtain ⟨o1', c1', z1', o2', c2', z2', rfl, _, _⟩ := F.cells hd2
    have hilj := hOj.look
    have hill := hOj.grown.wf.lt hilj
    simp -implicitDefEqProofs (maxDischargeDepth := 15) only [↓reduceIte, Yr, Ys, Yt, Yz, Wb, Wg, Wj, Wk, Wl, Wm, Wo, Ws, Wt, opA, Wv, Ww, Wx, Wy, Wz, Va, Za, Zb, Zd, Ze, Vb, Vc, Vd, Ve, AV.cells, Vg, Vh, Vn, partA, Zf, Zg, Zh, Zi, Nat.reduceAdd, Zj, Zk, Zm, Zn, Zo, Zp, Zq, Zs, Zt, binA, putL, allOne, Zu, Zv, AV.one, Zy, and_self, EndOk, resultA, Yf, eq_self, Yp, e1, hgi, hlen3, hxs, hilj, hill]
    rw [wrap_i64 (n := (n : Int) + 1) (by omega)]
    have hHt : Heads 281474976000000 ((F.mk op' nm' ar' l').outl (n + 1)) := fun p hp => hH p (by
      simp only [F.outl]
      refine List.mem_cons_of_mem _ ?_
      have : ∀ (l : List F), F.mk op' nm' ar' l' ∈ l → ∀ p ∈ (F.mk op' nm' ar' l').outl (n + 1), p ∈ F.outls (n + 1) l := by
        intro l
        induction l with
        | nil => intro h; cases h
        | cons a r ih =>
          intro h p hp
          simp only [F.outls]
          rcases List.mem_cons.1 h with e | e
          · subst e; exact List.mem_append_left _ hp
          · exact List.mem_append_right _ (ih e p hp)
      exact this l htm p hp)
    refine (ih _ (by omega) _ (Nat.le_refl _) (by omega) htok (n + 1) (by omega) hHt _ _ _ _ _ _ _ (hOj.push _) (by omega) hd3).mono ?_
    rintro u σ5 ⟨o5, c5, z5, hO5, hK5⟩
    simp -implicitDefEqProofs (maxDischargeDepth := 15) only [↓reduceIte, Yr, Ys, Yt, Wj, Wo, Wr, Wu, opA, Wv, Ww, Wx, Wy, Wz, Za, Zb, Vb, binA, eq_self]
    rw [wrap_i64 (n := (j : Int) + 1) (by omega)]
    refine ⟨m' - 1, by omega, j + 1, o5, c5, z5, ?_, (hKj.trans (Kp.push io hOj.grown.wf _)).trans hK5, by omega, _, _, _, _, _, _, _, _, _, _, _, _, _, _, _, _, _, _, _, _, _, _, _, _, _, _, _, _, _, _, _, _, rfl⟩
    rw [outls_take ht, List.length_append]
    have e5 := hO5
    simp only [List.map_cons, List.map_append, List.append_assoc, List.cons_append, Nat.add_assoc] at e5 ⊢
    exact e5
  · have hd : decide ((j : Int) < l.length) = false := decide_eq_false (by omega)
    have : l.take j = l := List.take_of_length_le (by omega)
    rw [this] at hOj
    simp -implicitDefEqProofs (maxDischargeDepth := 15) only [↓reduceIte, Yr, Ys, Yt, Wa, Wi, Wj, Wk, Wl, Wo, Wp, Ws, Wt, opA, Wv, Wx, Wy, Wz, Za, Zb, Vb, Zh, binA, EndOk, resultA, eq_self, hd]
    refine ⟨o', c', z', ?_, hKj⟩
    have e5 : k + (F.outl n (F.mk op nm ar l)).length = k + 1 + (F.outls (n + 1) l).length := by simp only [F.outl, List.length_cons]; omega
    rw [e5]
    exact hOj
end Go.Am
namespace Go.Am
open Go.RowKit Go.Proofs Do
set_option maxRecDepth 100000
theorem outline_ok (f : F) (hr : f.right = true) (hs : f.sane) (hH : Heads 281474976000000 (f.outl 0)) (σ : AState) (xs : List AV) (hD : DAtL σ.get f.dv xs) :
    RunF RR Tryz.prog n_describe_Outline [.agg xs] σ (fun u σ' => u = .tuple (.slice (some (σ.next, 0)) (f.outl 0).length none 1 :: [.int .i64 0]) ∧ σ' = σ.push (.cells (((f.outl 0).map lineS).map .str) true)) := by
  have hfl : AV.flatL (((f.outl 0).map lineS).map .str) = true := by
    generalize (f.outl 0).map lineS = ss
    induction ss with
    | nil => rfl
    | cons a r ih => simp only [List.map_cons, AV.flatL, ih]; rfl
  refine RunV.wf fun hW => RunV.fresh2 hfl rfl ?_
  refine runF_intro hmx rf_describe_Outline ?_
  have hlx : 4 ≤ xs.length := by rw [hD.length, F.dv_len]; omega
  have htx : xs.take 4 = xs := List.take_of_length_le (by rw [hD.length, F.dv_len]; omega)
  have hE := sub_push hW (.cells xs true)
  have hD1 := DAtL.sub hE _ _ hD
  have hr' := hr
  simp only [F.right, Bool.and_eq_true, decide_eq_true_eq] at hr'
  have hW1 := hW.push (.cells xs true)
  have hW2 := hW1.push (.cells [.slice none 0 (some 0) 0] true)
  simp -implicitDefEqProofs (maxDischargeDepth := 15) only [↓reduceIte, Yr, Ys, Yt, Wb, Wj, Wk, Wo, opA, Wv, Ww, Wx, Wy, Wz, Za, Zb, List.replicate, Zc, Zd, Ze, Vb, Vc, Vd, AV.cells, Vg, partA, Zf, Zg, Zh, Zi, Nat.reduceSub, Zk, Zm, i_describe_Outline, c77_0, c77_1, c77_2, c77_3, c77_4, c77_5, c77_6, c77_7, c77_8, c77_9, hlx, htx]
  refine RunV.to (right_ok f (by omega) hs _ _ hD1) ?_
  rw [hr]
  have hb : (((σ.push (.cells xs true)).push (.cells [.slice none 0 (some 0) 0] true)).push (.cells [lookA (σ.push (.cells xs true)).next ((σ.push (.cells xs true)).push (.cells [.slice none 0 (some 0) 0] true)).next] true)).get σ.next = some (.cells xs true) := by
    rw [Vh (by simp only [AState.push_next]; omega), Vh (by simp only [AState.push_next]; omega), Vg]
  simp -implicitDefEqProofs (maxDischargeDepth := 15) only [↓reduceIte, Yr, Ys, Yt, Wa, Wb, Wg, Wj, Wk, Wl, Wo, Wu, opA, Wv, Ww, Wx, Wy, Wz, Va, Za, Zb, Zd, Ze, Vb, Vc, Vd, Ve, AV.cells, Vg, Vh, Vi, Vj, Vn, partA, Zf, Zg, Zh, Zi, Zj, Zk, Zm, Zn, Zp, Zq, Zs, putL, allOne, Zu, Zv, AV.one, Zy, and_self, Yb, eq_self, hlx, htx]
  have hO : OutSt (σ.push (.cells xs true)) (σ.push (.cells xs true)).next ((σ.push (.cells xs true)).push (.cells [.slice none 0 (some 0) 0] true)).next
      (((σ.push (.cells xs true)).push (.cells [.slice none 0 (some 0) 0] true)).push (.cells [lookA (σ.push (.cells xs true)).next ((σ.push (.cells xs true)).push (.cells [.slice none 0 (some 0) 0] true)).next] true)) [] none 0 (some 0) 0 :=
    ⟨by rw [Vh Vi, Vg], Vg, Grown.nil hW1 (hW2.push _) (fun i b e => sub_push hW2 _ i b (sub_push hW1 _ i b e)) (by simp only [AState.push_next]; omega) _ _ _, by simp only [AState.push_next]; omega, Nat.le_refl _, by simp only [AState.push_next]; omega⟩
  refine (outlineS1_ok _ f (Nat.le_refl _) (by omega) (F.shape_ok f hr'.2) 0 (by omega) hH _ [] xs _ _ _ _ hO (by omega) hD1).mono ?_
  rintro u σ' ⟨o', c', z', hO', hK'⟩
  have hio := hO'.out
  simp -implicitDefEqProofs (maxDischargeDepth := 15) only [Yr, Ys, Yt, Wh, Wj, Wk, Wo, Wu, opA, Wv, Ww, Wx, Wy, Wz, Za, Zb, Vb, partA, Zk, Zq, EndOk, resultA, oneOf, Zz, hio]
  simp only [List.nil_append] at hO'
  have hlen : (f.outl 0).length ≠ 0 := by obtain ⟨op, nm, ar, l⟩ := f; simp [F.outl]
  rcases hO'.grown.at' with ⟨_, q⟩ | ⟨rfl, rfl, i, rfl, hi, hg⟩
  · exact absurd q (by omega)
  · exact ⟨i, by have : (σ.push (.cells xs true)).next = σ.next + 1 := rfl; omega, rfl, hg, fun j b e => hO'.grown.keep j b (hE j b e)⟩
end Go.Am
namespace Go.Am
open Go.RowKit Go.Proofs Do
set_option maxRecDepth 100000
abbrev nilA : AV := .slice none 0 (some 0) 0
theorem wrap_u8 {n : Int} (h : 0 ≤ n ∧ n ≤ 255) : wrapF .u8 n = n := by
  rw [wrapF_eq, IntKind.wrap_u8]; omega
theorem tmodN (a b : Nat) : (a : Int).tmod (b : Int) = ((a % b : Nat) : Int) := (Int.ofNat_tmod a b).symm
theorem tdivN (a b : Nat) : (a : Int).tdiv (b : Int) = ((a / b : Nat) : Int) := (Int.ofNat_tdiv a b).symm
theorem atom_ok (σ : AState) (s : Str) (o : Option (Nat × Nat)) (n : Nat) (c : Option Nat) (z : Nat) : RunF RR Tryz.prog n_law30_atom [.str s, .slice o n c z] σ (fun u σ' => u = .agg [.int .u8 1, .str s, .slice o n c z, nilA] ∧ σ' = σ.push (.cells [.int .u8 1, .str s, .slice o n c z, nilA] true)) := by
  refine runF_intro hmx rf_law30_atom ?_
  simp -implicitDefEqProofs (maxDischargeDepth := 15) only [↓reduceIte, Yr, Ys, Yt, Wh, Wj, Wk, Wo, opA, Wv, Ww, Wx, Wy, Wz, Va, Za, Zb, List.replicate, Zc, Zd, Ze, Vb, Vc, Vd, Ve, AV.cells, Vg, Vn, partA, Zf, Zg, Zh, Zi, Nat.reduceAdd, Nat.reduceLeDiff, Nat.reduceSub, Zj, Zk, Zm, Zn, Zo, Zp, Zs, Zt, fillA, putL, allOne, Zu, Zv, AV.one, Zy, and_self, EndOk, resultA, oneOf, eq_self, i_law30_atom, c38_0, c38_1]
theorem joinB_ok (σ : AState) (op : Int) (o : Option (Nat × Nat)) (n : Nat) (c : Option Nat) (z : Nat) : RunF RR Tryz.prog n_law30_join [.int .u8 op, .slice o n c z] σ (fun u σ' => u = .agg [.int .u8 op, .str [], nilA, .slice o n c z] ∧ σ' = σ.push (.cells [.int .u8 op, .str [], nilA, .slice o n c z] true)) := by
  refine runF_intro hmx rf_law30_join ?_
  simp -implicitDefEqProofs (maxDischargeDepth := 15) only [↓reduceIte, Yr, Ys, Yt, Wh, Wj, Wk, Wo, opA, Wv, Wx, Wy, Wz, Va, Za, Zb, List.replicate, Zc, Zd, Ze, Vb, Vc, Vd, Ve, AV.cells, Vg, Vn, partA, Zf, Zg, Zh, Zi, Nat.reduceAdd, Nat.reduceLeDiff, Nat.reduceSub, Zj, Zk, Zm, Zn, Zo, Zp, Zs, Zt, fillA, putL, allOne, Zu, Zv, AV.one, Zy, and_self, EndOk, resultA, oneOf, eq_self, i_law30_join, c16_0, c16_1]
theorem variable_ok (σ : AState) (s : Str) : RunF RR Tryz.prog n_law30_variable [.str s] σ (fun u σ' => u = .agg [.bool true, .str s, nilA] ∧ σ' = σ) := by
  refine RunV.wf fun hW => RunV.forget rfl ?_
  refine runF_intro hmx rf_law30_variable ?_
  simp -implicitDefEqProofs (maxDischargeDepth := 15) only [↓reduceIte, Yr, Ys, Yt, Wh, Wj, Wk, Wo, opA, Wv, Ww, Wx, Wy, Wz, Va, Za, Zb, List.replicate, Zc, Zd, Ze, Vb, Vc, Vd, Ve, AV.cells, Vg, Vn, partA, Zf, Zg, Zh, Zi, Nat.reduceAdd, Nat.reduceLeDiff, Nat.reduceSub, Zj, Zk, Zm, Zn, Zo, Zp, Zs, Zt, fillA, putL, allOne, Zu, Zv, AV.one, Zy, and_self, true_and, EndOk, resultA, oneOf, eq_self, i_law30_variable, c63_0, c63_1]
  exact sub_push hW _
theorem applyN_ok (σ : AState) (s : Str) : RunF RR Tryz.prog n_law30_apply [.str s, nilA] σ (fun u σ' => u = .agg [.bool false, .str s, nilA] ∧ σ' = σ) := by
  refine RunV.wf fun hW => RunV.forget rfl ?_
  refine runF_intro hmx rf_law30_apply ?_
  simp -implicitDefEqProofs (maxDischargeDepth := 15) only [↓reduceIte, Yr, Ys, Yt, Wh, Wj, Wk, Wo, opA, Wv, Wx, Wy, Wz, Va, Za, Zb, List.replicate, Zc, Zd, Ze, Vb, Vc, Vd, Ve, AV.cells, Vg, Vn, partA, Zf, Zg, Zh, Zi, Nat.reduceAdd, Nat.reduceLeDiff, Nat.reduceSub, Zj, Zk, Zm, Zn, Zo, Zp, Zs, Zt, fillA, putL, allOne, Zu, Zv, AV.one, Zy, and_self, true_and, EndOk, resultA, oneOf, eq_self, i_law30_apply, c86_0, c86_1]
  exact sub_push hW _
theorem apply_ok (σ : AState) (s : Str) (o : Option (Nat × Nat)) (n : Nat) (c : Option Nat) (z : Nat) : RunF RR Tryz.prog n_law30_apply [.str s, .slice o n c z] σ (fun u σ' => u = .agg [.bool false, .str s, .slice o n c z] ∧ σ' = σ.push (.cells [.bool false, .str s, .slice o n c z] true)) := by
  refine runF_intro hmx rf_law30_apply ?_
  simp -implicitDefEqProofs (maxDischargeDepth := 15) only [↓reduceIte, Yr, Ys, Yt, Wh, Wj, Wk, Wo, opA, Wv, Wx, Wy, Wz, Va, Za, Zb, List.replicate, Zc, Zd, Ze, Vb, Vc, Vd, Ve, AV.cells, Vg, Vn, partA, Zf, Zg, Zh, Zi, Nat.reduceAdd, Nat.reduceLeDiff, Nat.reduceSub, Zj, Zk, Zm, Zn, Zo, Zp, Zs, Zt, fillA, putL, allOne, Zu, Zv, AV.one, Zy, and_self, EndOk, resultA, oneOf, eq_self, i_law30_apply, c86_0, c86_1]
def tb0 (k : Nat) : List AV := if k = 0 then [.bool true, .str [120], nilA] else if k = 1 then [.bool true, .str [121], nilA] else if k = 2 then [.bool true, .str [122], nilA] else if k = 3 then [.bool false, .str [97], nilA] else [.bool false, .str [98], nilA]
def tbL : List AV := [.bool true, .str [120], nilA, .bool true, .str [121], nilA, .bool true, .str [122], nilA, .bool false, .str [97], nilA, .bool false, .str [98], nilA]
theorem tbL_at : ∀ k, k < 5 → (tbL.drop (k * 3)).take 3 = tb0 k ∧ k * 3 + 3 ≤ 15
  | 0, _ | 1, _ | 2, _ | 3, _ | 4, _ => ⟨rfl, by omega⟩
  | k + 5, h => absurd h (by omega)
theorem dat_nil (g : Mem) (sz : Nat) : DAt g (.sl sz 0 []) nilA := by
  rw [DAt]; exact ⟨none, some 0, 0, rfl, .inl rfl, .inl rfl, fun _ => rfl⟩
theorem tdat_nil (g : Mem) (v : Bool) (s : Str) : DAtL g (T.mk v s []).dv [.bool v, .str s, nilA] :=
  DAtL.cons_iff.2 ⟨_, _, rfl, by simp only [DAt], DAtL.cons_iff.2 ⟨_, _, rfl, by simp only [DAt], DAtL.cons_iff.2 ⟨_, _, rfl, dat_nil g 3, DAtL.nil_iff.2 rfl⟩⟩⟩
theorem dat_sl {g : Mem} {sz n i : Nat} {ds : List DV} {cs : List AV} {w : Bool} (c : Option Nat) (hg : g i = some (.cells cs w)) (hl : cs.length = n * sz) (hd : DAtL g ds cs) : DAt g (.sl sz n ds) (.slice (some (i, 0)) n c sz) := by
  rw [DAt]
  refine ⟨some (i, 0), c, sz, rfl, .inr rfl, .inr ⟨cs, ?_, hd⟩, fun h => by cases h⟩
  simp only [cellsAt, hg, List.drop_zero, Nat.zero_add]
  rw [if_pos (by omega), List.take_of_length_le (by omega)]
theorem Grow.set {σ σ' : AState} (h : Grow σ σ') (hW : σ.Wf) {j : Nat} (h1 : σ.next ≤ j) (h2 : j < σ'.next) (b : ABlk) : Grow σ (σ'.set j b) :=
  ⟨h.le, fun i x e => by rw [Vl (by have := hW.lt e; omega)]; exact h.sub i x e, h.wf.set h2 b⟩
theorem tb0_dat (g : Mem) : ∀ k, k < 5 → DAtL g (bTerm0 k).dv (tb0 k)
  | 0, _ | 1, _ | 2, _ | 3, _ | 4, _ => tdat_nil g _ _
  | k + 5, h => absurd h (by omega)
theorem tb0_cells : ∀ k, k < 5 → ∃ v s, tb0 k = [.bool v, .str s, nilA]
  | 0, _ | 1, _ | 2, _ | 3, _ | 4, _ => ⟨_, _, rfl⟩
  | k + 5, h => absurd h (by omega)
def newer (σ σ' : AState) : Mem := fun j => if j < σ.next then none else σ'.get j
theorem newer_mk {σ σ' : AState} {j : Nat} {b : ABlk} (h : σ.next ≤ j) (k : σ'.get j = some b) : newer σ σ' j = some b := by
  unfold newer; rw [if_neg (by omega)]; exact k
theorem newer_some {σ σ' : AState} {j : Nat} {b : ABlk} (h : newer σ σ' j = some b) : σ.next ≤ j ∧ σ'.get j = some b := by
  unfold newer at h
  split at h
  · cases h
  · exact ⟨by omega, h⟩
theorem bterm_ok (b : Nat) (hb : b < 256) (σ : AState) : RunF RR Tryz.prog n_law30_term [.int .u8 b] σ (fun u σ' => ∃ xs, u = .agg xs ∧ DAtL (newer σ σ') (bTerm b).dv xs ∧ Grow σ σ') := by
  refine RunV.wf fun hW => ?_
  refine runF_intro hmx rf_law30_term ?_
  have m5 : (b : Int).tmod 5 = ((b % 5 : Nat) : Int) := tmodN b 5
  have d5 : (b : Int).tdiv 5 = ((b / 5 : Nat) : Int) := tdivN b 5
  have m3 : ((b / 5 : Nat) : Int).tmod 3 = ((b / 5 % 3 : Nat) : Int) := tmodN _ 3
  have w1 : wrapF .u8 ((b / 5 : Nat) : Int) = ((b / 5 : Nat) : Int) := wrap_u8 (by omega)
  have z5 : ((5 : Int) = 0) = False := by simp
  have z3 : ((3 : Int) = 0) = False := by simp
  obtain ⟨hk1, hk2⟩ := tbL_at (b % 5) (by omega)
  obtain ⟨v0, s0, e0⟩ := tb0_cells (b % 5) (by omega)
  rw [e0] at hk1
  have hd0 := fun g => tb0_dat g (b % 5) (by omega)
  rw [e0] at hd0
  have e1 : (0 : Int) ≤ ((b % 5 : Nat) : Int) ∧ ((b % 5 : Nat) : Int) < ((5 : Nat) : Int) := by omega
  simp -implicitDefEqProofs (maxDischargeDepth := 15) only [Yr, Ys, Yt, Wb, Wj, Wk, Wo, opA, Ww, Wz, Za, Zb, List.replicate, Zc, Zd, Ze, Vb, Vc, Vd, Zf, Zg, Zh, Zi, Nat.reduceSub, Zk, i_law30_term, c2_0, c2_1, c2_2, c2_3, c2_4, c2_5, c2_6, c2_7, c2_8, c2_9, c2_10, c2_11]
  refine RunV.to (variable_ok _ _) ?_
  simp -implicitDefEqProofs (maxDischargeDepth := 15) only [Wb, Wu, Ww, Wz, Za, Zb, Zh, Zi]
  refine RunV.to (variable_ok _ _) ?_
  simp -implicitDefEqProofs (maxDischargeDepth := 15) only [Wb, Wu, Ww, Wz, Za, Zb, Zh, Zi]
  refine RunV.to (variable_ok _ _) ?_
  simp -implicitDefEqProofs (maxDischargeDepth := 15) only [Wb, Wu, Ww, Wz, Za, Zb, Zh, Zi]
  refine RunV.to (applyN_ok _ _) ?_
  simp -implicitDefEqProofs (maxDischargeDepth := 15) only [Wb, Wu, Ww, Wz, Za, Zb, Zh, Zi]
  refine RunV.to (applyN_ok _ _) ?_
  have hk1' := hk1
  simp only [tbL] at hk1'
  cases h3 : decide (((b / 5 % 3 : Nat) : Int) > 0)
  · simp -implicitDefEqProofs (maxDischargeDepth := 15) only [↓reduceIte, Yr, Ys, Yt, Wa, Wg, Wh, Wj, Wk, Wl, Wo, Wu, opA, Wv, Ww, Wx, Wy, Wz, Va, Za, Zb, Zc, Zd, Ze, Vb, Vc, Vd, Ve, AV.cells, Vg, Vh, Vi, Vj, Vk, Vn, partA, Zf, Zg, Zh, Zi, Nat.reduceAdd, Nat.reduceLeDiff, Zj, Zk, Zm, Zn, Zo, Zp, Zs, Zt, binA, fillA, putL, allOne, Zu, Zv, AV.one, Zy, and_self, EndOk, resultA, oneOf, Yf, eq_self, m5, d5, m3, w1, z5, z3, hk1', hk2, e1, h3]
    refine ⟨_, rfl, ?_, ?_⟩
    · have h3' : ¬ (0 < b / 5 % 3) := by simp only [decide_eq_false_iff_not] at h3; omega
      have : bTerm b = bTerm0 (b % 5) := by unfold bTerm; rw [if_neg h3']
      rw [this]
      exact hd0 _
    · exact ((((Grow.refl hW).push _).push _).push _).set hW (Nat.le_refl _) (by simp only [AState.push_next]; omega) _
  · have h3' : 0 < b / 5 % 3 := by simp only [decide_eq_true_eq] at h3; omega
    have w2 : wrapF .u8 (((b / 5 % 3 : Nat) : Int) - 1) = ((b / 5 % 3 - 1 : Nat) : Int) := by rw [wrap_u8 (by omega)]; omega
    have e2 : (0 : Int) ≤ ((b / 5 % 3 - 1 : Nat) : Int) ∧ ((b / 5 % 3 - 1 : Nat) : Int) < ((2 : Nat) : Int) := by omega
    have g2 : ([.str [102], .str [103]] : List AV)[b / 5 % 3 - 1]? = some (.str [if b / 5 % 3 = 1 then 102 else 103]) := by
      have : b / 5 % 3 = 1 ∨ b / 5 % 3 = 2 := by omega
      rcases this with e | e <;> rw [e] <;> rfl
    simp -implicitDefEqProofs (maxDischargeDepth := 15) only [↓reduceIte, Yr, Ys, Yt, Yz, Wb, Wj, Wk, Wl, Wo, Wu, opA, Wv, Ww, Wx, Wy, Wz, Va, Za, Zb, Zc, Zd, Ze, Vb, Vc, Vd, Ve, AV.cells, Vg, Vh, Vi, Vn, partA, Zf, Zg, Zh, Zi, Nat.reduceAdd, Nat.reduceLeDiff, Zj, Zk, Zm, Zn, Zo, Zp, Zs, Zt, binA, fillA, putL, allOne, Zu, Zv, AV.one, Zy, and_self, Yf, eq_self, m5, d5, m3, w1, z5, z3, hk1', hk2, e1, h3, w2, e2, g2, Nat.mul_one]
    refine RunV.to (apply_ok _ _ _ _ _ _) ?_
    simp -implicitDefEqProofs (maxDischargeDepth := 15) only [↓reduceIte, Yr, Ys, Yt, Wh, Wj, Wk, Wo, Wu, opA, Wv, Wx, Wy, Wz, Va, Za, Zb, Zd, Ze, Vb, Vc, Ve, AV.cells, Vg, Vh, Vi, Vj, Vk, Vl, Vq, partA, Zf, Zg, Nat.reduceAdd, Zj, Zk, Zm, Zn, Zo, Zp, Zs, Zt, putL, allOne, Zu, Zv, AV.one, Zy, and_self, EndOk, resultA, oneOf, eq_self, ne_eq, Yo]
    refine ⟨_, rfl, ?_, ?_⟩
    · have : bTerm b = tf (if b / 5 % 3 = 1 then 102 else 103) [bTerm0 (b % 5)] := by unfold bTerm; rw [if_pos h3']
      rw [this]
      refine DAtL.cons_iff.2 ⟨_, _, rfl, by simp only [DAt], DAtL.cons_iff.2 ⟨_, _, rfl, by simp only [DAt], DAtL.cons_iff.2 ⟨_, _, rfl, ?_, DAtL.nil_iff.2 rfl⟩⟩⟩
      show DAt _ (.sl 3 1 ((bTerm0 (b % 5)).dv ++ [])) _
      rw [List.append_nil]
      refine dat_sl (cs := [.bool v0, .str s0, nilA]) (w := true) (some 1) ?_ rfl (hd0 _)
      refine newer_mk (by simp only [AState.push_next]; omega) ?_
      rw [Vl (by simp only [AState.push_next, ne_eq]; omega), Vl (by simp only [AState.push_next, ne_eq]; omega), Vh (by simp only [AState.push_next]; omega), Vg]
    · refine ((((((((Grow.refl hW).push _).push _).push _).push _).push _).push _).set hW ?_ ?_ _).set hW (Nat.le_refl _) ?_ _
      · simp only [AState.push_next]; omega
      · simp only [AState.push_next]; omega
      · simp only [AState.push_next, AState.set_next]; omega
theorem bound_ok (σ : AState) (op : Int) (nm : Str) (x0 : Int) (x1 : Str) (o : Option (Nat × Nat)) (n : Nat) (c : Option Nat) (z : Nat) (o' : Option (Nat × Nat)) (n' : Nat) (c' : Option Nat) (z' : Nat) :
    RunF RR Tryz.prog n_law30_bound [.int .u8 op, .str nm, .agg [.int .u8 x0, .str x1, .slice o n c z, .slice o' n' c' z']] σ
      (fun u σ' => ∃ i, u = .agg [.int .u8 op, .str nm, nilA, .slice (some (i, 0)) 1 (some 1) 4] ∧ σ.next ≤ i ∧ σ'.get i = some (.cells [.int .u8 x0, .str x1, .slice o n c z, .slice o' n' c' z'] true) ∧ Grow σ σ') := by
  refine RunV.wf fun hW => ?_
  refine runF_intro hmx rf_law30_bound ?_
  simp -implicitDefEqProofs (maxDischargeDepth := 15) only [↓reduceIte, Yr, Ys, Yt, Wh, Wj, Wk, Wo, opA, Wv, Wx, Wy, Wz, Va, Za, Zb, List.replicate, Zc, Zd, Ze, Vb, Vc, Vd, Ve, AV.cells, Vg, Vh, Vi, Vk, partA, Zf, Zg, Zh, Zi, Nat.reduceAdd, Nat.reduceLeDiff, Nat.reduceSub, Zj, Zk, Zm, Zn, Zo, Zp, Zs, Zt, fillA, putL, allOne, Zu, Zv, AV.one, Zy, and_self, EndOk, resultA, oneOf, eq_self, i_law30_bound, c78_0, c78_1]
  refine ⟨_, rfl, ?_, ?_, ?_⟩
  · simp only [AState.push_next]; omega
  · rw [Vl (by simp only [AState.push_next, ne_eq]; omega), Vg]
  · exact ((((Grow.refl hW).push _).push _).push _).set hW (by simp only [AState.push_next]; omega) (by simp only [AState.push_next]; omega) _
end Go.Am
namespace Go.Am
open Go.RowKit Go.Proofs Do
set_option maxRecDepth 100000
def but (e : Nat) (σ : AState) (so : Option (Nat × Nat)) : Mem := fun j => if so = some (j, 0) ∨ j ≤ e then none else σ.get j
theorem but_some {e : Nat} {σ : AState} {so : Option (Nat × Nat)} {j : Nat} {b : ABlk} (h : but e σ so j = some b) : so ≠ some (j, 0) ∧ σ.get j = some b ∧ e < j := by
  unfold but at h
  split at h
  · cases h
  · rename_i q; exact ⟨fun h1 => q (.inl h1), h, Nat.lt_of_not_le fun h1 => q (.inr h1)⟩
theorem but_mk {e : Nat} {σ : AState} {so : Option (Nat × Nat)} {j : Nat} {b : ABlk} (h : so ≠ some (j, 0)) (k : σ.get j = some b) (he : e < j) : but e σ so j = some b := by
  unfold but; rw [if_neg (by rintro (q | q); exact h q; omega)]; exact k
theorem but_sub {e : Nat} {σ σ' : AState} {so : Option (Nat × Nat)} (h : Sub σ.get σ'.get) : Sub (but e σ so) (but e σ' so) := fun j b q => by
  obtain ⟨h1, h2, h3⟩ := but_some q
  exact but_mk h1 (h _ _ h2) h3
structure Stk (e : Nat) (σ0 σ : AState) (so : Option (Nat × Nat)) (n : Nat) (c : Option Nat) (z : Nat) (s : List F) (cs : List AV) : Prop where
  grown : Grown σ0 σ so n c z 4 cs
  dat : DAtL (but e σ so) (F.dvs s) cs
  len : s.length = n
  elt : e < σ0.next
theorem Stk.el {e : Nat} {σ0 σ : AState} {so : Option (Nat × Nat)} {n : Nat} {c : Option Nat} {z : Nat} {s : List F} {cs : List AV} (h : Stk e σ0 σ so n c z s cs) : e < σ.next := Nat.lt_of_lt_of_le h.elt h.grown.le
theorem Grown.grow {σ0 σ σ' : AState} {o : Option (Nat × Nat)} {n : Nat} {c : Option Nat} {z sz : Nat} {cs : List AV} (h : Grown σ0 σ o n c z sz cs) (k : Grow σ σ') : Grown σ0 σ' o n c z sz cs :=
  ⟨h.wf0, k.wf, fun i b e => k.sub i b (h.keep i b e), Nat.le_trans h.le k.le, h.len, h.at'.imp_right fun ⟨h1, h2, i, h3, h4, h5⟩ => ⟨h1, h2, i, h3, h4, k.sub _ _ h5⟩⟩
theorem Stk.grow {e : Nat} {σ0 σ σ' : AState} {so : Option (Nat × Nat)} {n : Nat} {c : Option Nat} {z : Nat} {s : List F} {cs : List AV} (h : Stk e σ0 σ so n c z s cs) (k : Grow σ σ') : Stk e σ0 σ' so n c z s cs :=
  ⟨h.grown.grow k, DAtL.sub (but_sub k.sub) _ _ h.dat, h.len, h.elt⟩
theorem Stk.push {e : Nat} {σ0 σ : AState} {so : Option (Nat × Nat)} {n : Nat} {c : Option Nat} {z : Nat} {s : List F} {cs : List AV} (h : Stk e σ0 σ so n c z s cs) (b : ABlk) : Stk e σ0 (σ.push b) so n c z s cs :=
  h.grow ((Grow.refl h.grown.wf).push b)
theorem dvs_append (a b : List F) : F.dvs (a ++ b) = F.dvs a ++ F.dvs b := by
  induction a with
  | nil => rfl
  | cons x a ih => simp only [List.cons_append, F.dvs, ih, List.append_assoc]
theorem dvs_one (f : F) : F.dvs [f] = f.dv := by simp [F.dvs]
theorem dvs_take (s : List F) (k : Nat) : F.dvs (s.take k) = (F.dvs s).take (k * 4) := by
  induction s generalizing k with
  | nil => simp [F.dvs]
  | cons a r ih =>
    cases k with
    | zero => simp [F.dvs]
    | succ k =>
      simp only [List.take_succ_cons, F.dvs, ih]
      rw [show (k + 1) * 4 = a.dv.length + k * 4 by rw [F.dv_len]; omega, List.take_length_add_append]
theorem appendA_new {g : Mem} {next sz b : Nat} {s : AV} {xs : List AV} {i n' sz' : Nat} {es : List Eff} (h : appendA g next sz b s 1 xs = some (.slice (some (i, 0)) n' none sz', es)) : i = next := by
  unfold appendA at h
  cases s <;> simp only at h <;> try cases h
  split at h
  case isFalse => cases h
  rw [if_neg (by decide)] at h
  split at h
  · split at h
    · simp only [Option.some.injEq, Prod.mk.injEq, AV.slice.injEq] at h; exact h.1.1.1.symm
    · cases h
  · split at h
    · split at h
      · split at h
        · split at h
          · simp only [Option.some.injEq, Prod.mk.injEq, AV.slice.injEq] at h; exact absurd h.1.2.2.1 (by simp)
          · cases h
        · split at h
          · simp only [Option.some.injEq, Prod.mk.injEq, AV.slice.injEq] at h; exact h.1.1.1.symm
          · cases h
      · split at h
        · simp only [Option.some.injEq, Prod.mk.injEq, AV.slice.injEq] at h; exact h.1.1.1.symm
        · cases h
    · cases h
theorem Stk.append {e : Nat} {σ0 σ : AState} {so : Option (Nat × Nat)} {n : Nat} {c : Option Nat} {z : Nat} {s : List F} {cs : List AV} (h : Stk e σ0 σ so n c z s cs) {f : F} {xs : List AV} (hd : DAtL (but e σ so) f.dv xs) (ho : allOne xs = true) (hn : n ≤ 1000000) :
    ∃ i es, appendA σ.get σ.next 4 72 (.slice so n c z) 1 xs = some (.slice (some (i, 0)) (n + 1) none 4, es) ∧ Stk e σ0 (σ.app es) (some (i, 0)) (n + 1) none 4 (s ++ [f]) (cs ++ xs) := by
  have hxl : xs.length = 4 := by rw [hd.length, F.dv_len]
  obtain ⟨i, es, he, hG, hle, hk⟩ := h.grown.append (bytes := 72) (by omega) hxl ho (decide_eq_true (by omega))
  refine ⟨i, es, he, hG, ?_, by simp [h.len], h.elt⟩
  have hsub : Sub (but e σ so) (but e (σ.app es) (some (i, 0))) := fun j b e => by
    obtain ⟨h1, h2, h3⟩ := but_some e
    refine but_mk ?_ (hk j b (fun i' hi' q => by subst q; exact h1 hi') h2) h3
    intro q
    cases q
    have hj := h.grown.wf.lt h2
    have hi := appendA_new he
    omega
  rw [dvs_append, dvs_one]
  exact DAtL.append_iff.2 ⟨cs, xs, rfl, DAtL.sub hsub _ _ h.dat, DAtL.sub hsub _ _ hd⟩
theorem Stk.elem {e : Nat} {σ0 σ : AState} {so : Option (Nat × Nat)} {n : Nat} {c : Option Nat} {z : Nat} {s : List F} {cs : List AV} (h : Stk e σ0 σ so n c z s cs) {k : Nat} {f : F} (hk : s[k]? = some f) :
    z = 4 ∧ ∃ i xs, so = some (i, 0) ∧ σ.get i = some (.cells cs true) ∧ k * 4 + 4 ≤ cs.length ∧ (cs.drop (k * 4)).take 4 = xs ∧ DAtL (but e σ so) f.dv xs := by
  have hkl : k < s.length := by
    rcases Nat.lt_or_ge k s.length with q | q
    · exact q
    · rw [List.getElem?_eq_none q] at hk; cases hk
  have hl := h.grown.len
  have hn := h.len
  rcases h.grown.at' with ⟨_, q⟩ | ⟨_, hz, i, hi, _, hg⟩
  · omega
  · refine ⟨hz, i, _, hi, hg, by omega, rfl, ?_⟩
    have := (h.dat.drop (k * 4)).take 4
    rw [F.dvs_get s k f hk] at this
    exact this
theorem Stk.appendTake {e : Nat} {σ0 σ : AState} {so : Option (Nat × Nat)} {n : Nat} {c : Option Nat} {z : Nat} {s : List F} {cs : List AV} (h : Stk e σ0 σ so n c z s cs) {i k : Nat} (hso : so = some (i, 0)) (hk : k ≤ n) {f : F} {xs : List AV} (hd : DAtL (but e σ so) f.dv xs) (hn : n ≤ 1000000) :
    appendA σ.get σ.next 4 72 (.slice so k (some k) 4) 1 xs = some (.slice (some (σ.next, 0)) (k + 1) none 4, [.push (.cells (cs.take (k * 4) ++ xs) true)]) ∧
    Stk e σ0 (σ.push (.cells (cs.take (k * 4) ++ xs) true)) (some (σ.next, 0)) (k + 1) none 4 (s.take k ++ [f]) (cs.take (k * 4) ++ xs) := by
  subst hso
  have hxl : xs.length = 4 := by rw [hd.length, F.dv_len]
  have hl := h.grown.len
  rcases h.grown.at' with ⟨q, _⟩ | ⟨_, hz, i', hi, hge, hg⟩
  · cases q
  cases hi
  have hgr : grows (k + 1) 72 = true := decide_eq_true (by omega)
  constructor
  · have h1 : ¬ (k + 1 ≤ k) := by omega
    have h2 : k * 4 ≤ cs.length := by omega
    simp [appendA, hg, hgr, h2]
  · have hlen : (cs.take (k * 4) ++ xs).length = (k + 1) * 4 := by rw [List.length_append, List.length_take, hxl]; omega
    refine ⟨⟨h.grown.wf0, h.grown.wf.push _, fun j b e => sub_push h.grown.wf _ j b (h.grown.keep j b e), Nat.le_succ_of_le h.grown.le, hlen, .inr ⟨rfl, rfl, σ.next, rfl, h.grown.le, Vg⟩⟩, ?_, by have := h.len; simp; omega, h.elt⟩
    have hsub : Sub (but e σ (some (i, 0))) (but e (σ.push (.cells (cs.take (k * 4) ++ xs) true)) (some (σ.next, 0))) := fun j b e => by
      obtain ⟨h1, h2, h3⟩ := but_some e
      refine but_mk ?_ (sub_push h.grown.wf _ j b h2) h3
      intro q; cases q
      have := h.grown.wf.lt h2; omega
    rw [dvs_append, dvs_one, dvs_take]
    exact DAtL.append_iff.2 ⟨_, xs, rfl, DAtL.sub hsub _ _ (h.dat.take _), DAtL.sub hsub _ _ hd⟩
end Go.Am
namespace Go.Am
open Go.RowKit Go.Proofs Do
set_option maxRecDepth 100000
def Bys (g : Mem) (o : Option (Nat × Nat)) (n z : Nat) (l : List Nat) : Prop :=
  (o = none ∧ n = 0 ∧ l = []) ∨ (l.length = n ∧ z = 1 ∧ ∃ i off cs w, o = some (i, off) ∧ g i = some (.cells cs w) ∧ off + n ≤ cs.length ∧ (cs.drop off).take n = l.map (fun (x : Nat) => AV.int .u8 x))
theorem Bys.len {g : Mem} {o : Option (Nat × Nat)} {n z : Nat} {l : List Nat} (h : Bys g o n z l) : l.length = n := by
  rcases h with ⟨_, h, rfl⟩ | ⟨h, _⟩
  · exact h.symm
  · exact h
theorem Bys.sub {g h : Mem} (s : Sub g h) {o : Option (Nat × Nat)} {n z : Nat} {l : List Nat} (e : Bys g o n z l) : Bys h o n z l :=
  e.imp_right fun ⟨a, b, i, off, cs, w, h1, h2, h3⟩ => ⟨a, b, i, off, cs, w, h1, s _ _ h2, h3⟩
theorem Bys.elem {g : Mem} {o : Option (Nat × Nat)} {n z : Nat} {l : List Nat} (h : Bys g o n z l) {k x : Nat} (hx : l[k]? = some x) : z = 1 ∧ ∃ i off cs w, o = some (i, off) ∧ g i = some (.cells cs w) ∧ cs[off + k]? = some (.int .u8 x) := by
  have hk : k < l.length := by
    rcases Nat.lt_or_ge k l.length with q | q
    · exact q
    · rw [List.getElem?_eq_none q] at hx; cases hx
  rcases h with ⟨_, h, rfl⟩ | ⟨a, b, i, off, cs, w, h1, h2, h3, h4⟩
  · cases hx
  refine ⟨b, i, off, cs, w, h1, h2, ?_⟩
  have : ((cs.drop off).take n)[k]? = some (.int .u8 x) := by rw [h4, List.getElem?_map, hx]; rfl
  rw [List.getElem?_take_of_lt (by omega), List.getElem?_drop] at this
  exact this
theorem fdat {g : Mem} {op : Nat} {nm : Str} {ar : List T} {l : List F} {v1 v2 : AV} (h1 : DAt g (.sl 3 ar.length (T.dvs ar)) v1) (h2 : DAt g (.sl 4 l.length (F.dvs l)) v2) : DAtL g (F.mk op nm ar l).dv [.int .u8 op, .str nm, v1, v2] :=
  DAtL.cons_iff.2 ⟨_, _, rfl, by simp only [DAt], DAtL.cons_iff.2 ⟨_, _, rfl, by simp only [DAt], DAtL.cons_iff.2 ⟨_, _, rfl, h1, DAtL.cons_iff.2 ⟨_, _, rfl, h2, DAtL.nil_iff.2 rfl⟩⟩⟩⟩
theorem foldl_take {α β : Type} (f : β → α → β) (b : β) {l : List α} {k : Nat} {x : α} (h : l[k]? = some x) : (l.take (k + 1)).foldl f b = f ((l.take k).foldl f b) x := by
  rw [List.take_add_one, h]; simp
theorem term_is : ∀ t : T, ∃ v n a, t = .mk v n a
  | .mk v n a => ⟨v, n, a, rfl⟩
theorem form_is : ∀ f : F, ∃ op n a l, f = .mk op n a l
  | .mk op n a l => ⟨op, n, a, l, rfl⟩
theorem natOf_cast (k : IntKind) (n : Nat) : natOf (.int k (n : Int)) = some n := rfl
theorem sub_newer {e : Nat} {σ' σ2 : AState} {so : Option (Nat × Nat)} (h : ∀ i, so = some (i, 0) → i < σ'.next) (he : e < σ'.next) : Sub (newer σ' σ2) (but e σ2 so) := fun j b q => by
  obtain ⟨h1, h2⟩ := newer_some q
  exact but_mk (fun q => by have := h j q; omega) h2 (by omega)
theorem Stk.lt {e : Nat} {σ1 σ' : AState} {so : Option (Nat × Nat)} {sn : Nat} {sc : Option Nat} {sz : Nat} {s : List F} {cs : List AV} (h : Stk e σ1 σ' so sn sc sz s cs) : ∀ i, so = some (i, 0) → i < σ'.next := fun i hi => by
  rcases h.grown.at' with ⟨q, _⟩ | ⟨_, _, i', q, _, hg⟩
  · rw [q] at hi; cases hi
  · rw [q] at hi; cases hi; exact h.grown.wf.lt hg
theorem bsw1 {e : Nat} {σ1 σ' : AState} {v0 p2 : AV} {k : Nat} {so : Option (Nat × Nat)} {sn : Nat} {sc : Option Nat} {sz : Nat} {s : List F} {cs : List AV} (hS : Stk e σ1 σ' so sn sc sz s cs) (hsn : sn ≤ 20) {x : Nat} (hx : x < 256) (hr : x % 12 < 2) {j1 j8 j9 j10 j11 j12 j13 j14 j15 j16 j17 j18 j19 j20 j21 j22 j23 j24 j25 j26 j27 j28 j29 j30 j31 j32 j33 j34 j35 j36 j37 j38 j39 j40 j41 j42 j43 j44 j45 j46 j47 j48 j49 j50 j51 j52 j53 j54 j55 j56 j57 j58 j59 j60 j61 j62 j63 j64 j65 j66 j67 j68 j69 j70 j71 j72 j73 j74 j75 j76 j77 j78 j79 j80 j81 j82 j83 j84 j85 j86 j87 j88 j89 j90 j91 j92 j93 j94 j95 j96 j97 j98 j99 j100 j101 j102 j103 j104 j105 j106 j107 j108 j109 j110 j111 j112 j113 j114 j115 j116 j117 j118 j119 j120 j121 j122 j123 j124 j125 j126 j127 j128 j129 j130 j131 j132 j133 j134 j135 j136 j137 j138 j139 j140 j141 j142 j143 j144 j145 j146 j147 j148 j149 j150 j151 j152 j153 j154 j155 j156 j157 j158 j159 j160 j161 j162 j163 j164 j165 j166 j167 j168 j169 j170 j171 j172 j173 j174 j175 j176 j177 j178 j179 j180 j181 j182 j183 j184 j185 j186 j187 j188 j189 j190 j191 : AV} {Q : Ex → List AV → AState → Prop}
    (hQ : ∀ (σ'' : AState) (so' : Option (Nat × Nat)) (sn' : Nat) (sc' : Option Nat) (sz' : Nat) (cs' : List AV) (j1 j5 j6 j7 j8 j9 j10 j11 j12 j13 j14 j15 j16 j17 j18 j19 j20 j21 j22 j23 j24 j25 j26 j27 j28 j29 j30 j31 j32 j33 j34 j35 j36 j37 j38 j39 j40 j41 j42 j43 j44 j45 j46 j47 j48 j49 j50 j51 j52 j53 j54 j55 j56 j57 j58 j59 j60 j61 j62 j63 j64 j65 j66 j67 j68 j69 j70 j71 j72 j73 j74 j75 j76 j77 j78 j79 j80 j81 j82 j83 j84 j85 j86 j87 j88 j89 j90 j91 j92 j93 j94 j95 j96 j97 j98 j99 j100 j101 j102 j103 j104 j105 j106 j107 j108 j109 j110 j111 j112 j113 j114 j115 j116 j117 j118 j119 j120 j121 j122 j123 j124 j125 j126 j127 j128 j129 j130 j131 j132 j133 j134 j135 j136 j137 j138 j139 j140 j141 j142 j143 j144 j145 j146 j147 j148 j149 j150 j151 j152 j153 j154 j155 j156 j157 j158 j159 j160 j161 j162 j163 j164 j165 j166 j167 j168 j169 j170 j171 j172 j173 j174 j175 j176 j177 j178 j179 j180 j181 j182 j183 j184 j185 j186 j187 j188 j189 j190 j191 : AV), Stk e σ1 σ'' so' sn' sc' sz' (bStep s x) cs' → sn' ≤ sn + 1 → Q .normal [v0, j1, p2, .slice so' sn' sc' sz', .int .i64 k, j5, j6, j7, j8, j9, j10, j11, j12, j13, j14, j15, j16, j17, j18, j19, j20, j21, j22, j23, j24, j25, j26, j27, j28, j29, j30, j31, j32, j33, j34, j35, j36, j37, j38, j39, j40, j41, j42, j43, j44, j45, j46, j47, j48, j49, j50, j51, j52, j53, j54, j55, j56, j57, j58, j59, j60, j61, j62, j63, j64, j65, j66, j67, j68, j69, j70, j71, j72, j73, j74, j75, j76, j77, j78, j79, j80, j81, j82, j83, j84, j85, j86, j87, j88, j89, j90, j91, j92, j93, j94, j95, j96, j97, j98, j99, j100, j101, j102, j103, j104, j105, j106, j107, j108, j109, j110, j111, j112, j113, j114, j115, j116, j117, j118, j119, j120, j121, j122, j123, j124, j125, j126, j127, j128, j129, j130, j131, j132, j133, j134, j135, j136, j137, j138, j139, j140, j141, j142, j143, j144, j145, j146, j147, j148, j149, j150, j151, j152, j153, j154, j155, j156, j157, j158, j159, j160, j161, j162, j163, j164, j165, j166, j167, j168, j169, j170, j171, j172, j173, j174, j175, j176, j177, j178, j179, j180, j181, j182, j183, j184, j185, j186, j187, j188, j189, j190, j191] σ'') :
    wpC RR Tryz.prog c21_31 [v0, j1, p2, .slice so sn sc sz, .int .i64 k, .int .i64 sn, .int .u8 (x / 12 : Nat), .int .u8 (x % 12 : Nat), j8, j9, j10, j11, j12, j13, j14, j15, j16, j17, j18, j19, j20, j21, j22, j23, j24, j25, j26, j27, j28, j29, j30, j31, j32, j33, j34, j35, j36, j37, j38, j39, j40, j41, j42, j43, j44, j45, j46, j47, j48, j49, j50, j51, j52, j53, j54, j55, j56, j57, j58, j59, j60, j61, j62, j63, j64, j65, j66, j67, j68, j69, j70, j71, j72, j73, j74, j75, j76, j77, j78, j79, j80, j81, j82, j83, j84, j85, j86, j87, j88, j89, j90, j91, j92, j93, j94, j95, j96, j97, j98, j99, j100, j101, j102, j103, j104, j105, j106, j107, j108, j109, j110, j111, j112, j113, j114, j115, j116, j117, j118, j119, j120, j121, j122, j123, j124, j125, j126, j127, j128, j129, j130, j131, j132, j133, j134, j135, j136, j137, j138, j139, j140, j141, j142, j143, j144, j145, j146, j147, j148, j149, j150, j151, j152, j153, j154, j155, j156, j157, j158, j159, j160, j161, j162, j163, j164, j165, j166, j167, j168, j169, j170, j171, j172, j173, j174, j175, j176, j177, j178, j179, j180, j181, j182, j183, j184, j185, j186, j187, j188, j189, j190, j191] σ' Q := by
  have hb : bStep s x = s ++ [bAtom (if x / 12 % 3 = 0 then 80 else if x / 12 % 3 = 1 then 81 else 82) []] := by unfold bStep; rw [if_pos hr]
  have c1 : decide (((x % 12 : Nat) : Int) < 2) = true := decide_eq_true (by omega)
  have m3 : ((x / 12 : Nat) : Int).tmod 3 = ((x / 12 % 3 : Nat) : Int) := tmodN _ 3
  have z3 : ((3 : Int) = 0) = False := by simp
  have e3 : (0 : Int) ≤ ((x / 12 % 3 : Nat) : Int) ∧ ((x / 12 % 3 : Nat) : Int) < ((3 : Nat) : Int) := by omega
  have g3 : ([.str [80], .str [81], .str [82]] : List AV)[x / 12 % 3]? = some (.str [if x / 12 % 3 = 0 then 80 else if x / 12 % 3 = 1 then 81 else 82]) := by
    have : x / 12 % 3 = 0 ∨ x / 12 % 3 = 1 ∨ x / 12 % 3 = 2 := by omega
    rcases this with e | e | e <;> rw [e] <;> rfl
  simp -implicitDefEqProofs (maxDischargeDepth := 15) only [↓reduceIte, Yr, Ys, Yt, Yz, Wb, Wj, Wk, Wl, Wo, opA, Wv, Ww, Wx, Wy, Wz, Za, Zb, Zc, Zd, Ze, Vb, Vc, Vd, AV.cells, Vg, partA, Zf, Zg, Zh, Zi, Nat.reduceAdd, Nat.reduceLeDiff, Zj, Zk, Zm, Zn, Zo, Zp, Zs, binA, fillA, and_self, Yf, eq_self, c21_1, c21_2, c21_3, c21_4, c21_5, c21_6, c21_7, c21_8, c21_9, c21_10, c21_11, c21_12, c21_13, c21_14, c21_15, c21_16, c21_17, c21_18, c21_19, c21_20, c21_21, c21_22, c21_23, c21_24, c21_25, c21_26, c21_27, c21_28, c21_29, c21_30, c21_31, c1, m3, z3, e3, g3, Nat.mul_one]
  refine RunV.to (atom_ok _ _ _ _ _ _) ?_
  obtain ⟨i, es, he, hS4⟩ := (((hS.push (.cells [.str [80], .str [81], .str [82]] true)).push (.cells [.int .u8 1, .str [if x / 12 % 3 = 0 then 80 else if x / 12 % 3 = 1 then 81 else 82], nilA, nilA] true)).push (.cells [.int .u8 1, .str [if x / 12 % 3 = 0 then 80 else if x / 12 % 3 = 1 then 81 else 82], nilA, nilA] true)).append
    (f := bAtom (if x / 12 % 3 = 0 then 80 else if x / 12 % 3 = 1 then 81 else 82) []) (xs := [.int .u8 1, .str [if x / 12 % 3 = 0 then 80 else if x / 12 % 3 = 1 then 81 else 82], nilA, nilA]) (fdat (dat_nil _ 3) (dat_nil _ 4)) rfl (by omega)
  simp -implicitDefEqProofs (maxDischargeDepth := 15) only [↓reduceIte, Yr, Ys, Yt, Wu, opA, Wv, Wx, Wy, Wz, Za, Zb, Zd, Ze, Vb, Vc, Vd, AV.cells, Vg, Zf, Zg, Zh, Zi, Nat.reduceAdd, Zj, Zk, Zm, Zn, Zo, Zp, Zs, Zt, fillA, and_self, lenA, firstA, eq_self, he]
  rw [← hb] at hS4
  exact hQ _ _ _ _ _ _ _ _ _ _ _ _ _ _ _ _ _ _ _ _ _ _ _ _ _ _ _ _ _ _ _ _ _ _ _ _ _ _ _ _ _ _ _ _ _ _ _ _ _ _ _ _ _ _ _ _ _ _ _ _ _ _ _ _ _ _ _ _ _ _ _ _ _ _ _ _ _ _ _ _ _ _ _ _ _ _ _ _ _ _ _ _ _ _ _ _ _ _ _ _ _ _ _ _ _ _ _ _ _ _ _ _ _ _ _ _ _ _ _ _ _ _ _ _ _ _ _ _ _ _ _ _ _ _ _ _ _ _ _ _ _ _ _ _ _ _ _ _ _ _ _ _ _ _ _ _ _ _ _ _ _ _ _ _ _ _ _ _ _ _ _ _ _ _ _ _ _ _ _ _ _ _ _ _ _ _ _ _ _ _ _ _ _ _ hS4 (Nat.le_refl _)
theorem bsw2 {e : Nat} {σ1 σ' : AState} {v0 p2 : AV} {k : Nat} {so : Option (Nat × Nat)} {sn : Nat} {sc : Option Nat} {sz : Nat} {s : List F} {cs : List AV} (hS : Stk e σ1 σ' so sn sc sz s cs) (hsn : sn ≤ 20) {x : Nat} (hx : x < 256) (hr : 2 ≤ x % 12 ∧ x % 12 < 4) {j1 j8 j9 j10 j11 j12 j13 j14 j15 j16 j17 j18 j19 j20 j21 j22 j23 j24 j25 j26 j27 j28 j29 j30 j31 j32 j33 j34 j35 j36 j37 j38 j39 j40 j41 j42 j43 j44 j45 j46 j47 j48 j49 j50 j51 j52 j53 j54 j55 j56 j57 j58 j59 j60 j61 j62 j63 j64 j65 j66 j67 j68 j69 j70 j71 j72 j73 j74 j75 j76 j77 j78 j79 j80 j81 j82 j83 j84 j85 j86 j87 j88 j89 j90 j91 j92 j93 j94 j95 j96 j97 j98 j99 j100 j101 j102 j103 j104 j105 j106 j107 j108 j109 j110 j111 j112 j113 j114 j115 j116 j117 j118 j119 j120 j121 j122 j123 j124 j125 j126 j127 j128 j129 j130 j131 j132 j133 j134 j135 j136 j137 j138 j139 j140 j141 j142 j143 j144 j145 j146 j147 j148 j149 j150 j151 j152 j153 j154 j155 j156 j157 j158 j159 j160 j161 j162 j163 j164 j165 j166 j167 j168 j169 j170 j171 j172 j173 j174 j175 j176 j177 j178 j179 j180 j181 j182 j183 j184 j185 j186 j187 j188 j189 j190 j191 : AV} {Q : Ex → List AV → AState → Prop}
    (hQ : ∀ (σ'' : AState) (so' : Option (Nat × Nat)) (sn' : Nat) (sc' : Option Nat) (sz' : Nat) (cs' : List AV) (j1 j5 j6 j7 j8 j9 j10 j11 j12 j13 j14 j15 j16 j17 j18 j19 j20 j21 j22 j23 j24 j25 j26 j27 j28 j29 j30 j31 j32 j33 j34 j35 j36 j37 j38 j39 j40 j41 j42 j43 j44 j45 j46 j47 j48 j49 j50 j51 j52 j53 j54 j55 j56 j57 j58 j59 j60 j61 j62 j63 j64 j65 j66 j67 j68 j69 j70 j71 j72 j73 j74 j75 j76 j77 j78 j79 j80 j81 j82 j83 j84 j85 j86 j87 j88 j89 j90 j91 j92 j93 j94 j95 j96 j97 j98 j99 j100 j101 j102 j103 j104 j105 j106 j107 j108 j109 j110 j111 j112 j113 j114 j115 j116 j117 j118 j119 j120 j121 j122 j123 j124 j125 j126 j127 j128 j129 j130 j131 j132 j133 j134 j135 j136 j137 j138 j139 j140 j141 j142 j143 j144 j145 j146 j147 j148 j149 j150 j151 j152 j153 j154 j155 j156 j157 j158 j159 j160 j161 j162 j163 j164 j165 j166 j167 j168 j169 j170 j171 j172 j173 j174 j175 j176 j177 j178 j179 j180 j181 j182 j183 j184 j185 j186 j187 j188 j189 j190 j191 : AV), Stk e σ1 σ'' so' sn' sc' sz' (bStep s x) cs' → sn' ≤ sn + 1 → Q .normal [v0, j1, p2, .slice so' sn' sc' sz', .int .i64 k, j5, j6, j7, j8, j9, j10, j11, j12, j13, j14, j15, j16, j17, j18, j19, j20, j21, j22, j23, j24, j25, j26, j27, j28, j29, j30, j31, j32, j33, j34, j35, j36, j37, j38, j39, j40, j41, j42, j43, j44, j45, j46, j47, j48, j49, j50, j51, j52, j53, j54, j55, j56, j57, j58, j59, j60, j61, j62, j63, j64, j65, j66, j67, j68, j69, j70, j71, j72, j73, j74, j75, j76, j77, j78, j79, j80, j81, j82, j83, j84, j85, j86, j87, j88, j89, j90, j91, j92, j93, j94, j95, j96, j97, j98, j99, j100, j101, j102, j103, j104, j105, j106, j107, j108, j109, j110, j111, j112, j113, j114, j115, j116, j117, j118, j119, j120, j121, j122, j123, j124, j125, j126, j127, j128, j129, j130, j131, j132, j133, j134, j135, j136, j137, j138, j139, j140, j141, j142, j143, j144, j145, j146, j147, j148, j149, j150, j151, j152, j153, j154, j155, j156, j157, j158, j159, j160, j161, j162, j163, j164, j165, j166, j167, j168, j169, j170, j171, j172, j173, j174, j175, j176, j177, j178, j179, j180, j181, j182, j183, j184, j185, j186, j187, j188, j189, j190, j191] σ'') :
    wpC RR Tryz.prog c21_31 [v0, j1, p2, .slice so sn sc sz, .int .i64 k, .int .i64 sn, .int .u8 (x / 12 : Nat), .int .u8 (x % 12 : Nat), j8, j9, j10, j11, j12, j13, j14, j15, j16, j17, j18, j19, j20, j21, j22, j23, j24, j25, j26, j27, j28, j29, j30, j31, j32, j33, j34, j35, j36, j37, j38, j39, j40, j41, j42, j43, j44, j45, j46, j47, j48, j49, j50, j51, j52, j53, j54, j55, j56, j57, j58, j59, j60, j61, j62, j63, j64, j65, j66, j67, j68, j69, j70, j71, j72, j73, j74, j75, j76, j77, j78, j79, j80, j81, j82, j83, j84, j85, j86, j87, j88, j89, j90, j91, j92, j93, j94, j95, j96, j97, j98, j99, j100, j101, j102, j103, j104, j105, j106, j107, j108, j109, j110, j111, j112, j113, j114, j115, j116, j117, j118, j119, j120, j121, j122, j123, j124, j125, j126, j127, j128, j129, j130, j131, j132, j133, j134, j135, j136, j137, j138, j139, j140, j141, j142, j143, j144, j145, j146, j147, j148, j149, j150, j151, j152, j153, j154, j155, j156, j157, j158, j159, j160, j161, j162, j163, j164, j165, j166, j167, j168, j169, j170, j171, j172, j173, j174, j175, j176, j177, j178, j179, j180, j181, j182, j183, j184, j185, j186, j187, j188, j189, j190, j191] σ' Q := by
  have hb : bStep s x = s ++ [bAtom (if x % 12 % 2 = 0 then 80 else 81) [bTerm (x / 12)]] := by unfold bStep; rw [if_neg (by omega), if_pos hr.2]
  have c1 : decide (((x % 12 : Nat) : Int) < 2) = false := decide_eq_false (by omega)
  have c2 : decide (((x % 12 : Nat) : Int) < 4) = true := decide_eq_true (by omega)
  have m3 : ((x / 12 : Nat) : Int).tmod 3 = ((x / 12 % 3 : Nat) : Int) := tmodN _ 3
  have m2 : ((x % 12 : Nat) : Int).tmod 2 = ((x % 12 % 2 : Nat) : Int) := tmodN _ 2
  have d3 : wrapF .u8 (((x / 12 : Nat) : Int).tdiv 3) = ((x / 12 / 3 : Nat) : Int) := by rw [show (3 : Int) = ((3 : Nat) : Int) from rfl, tdivN, wrap_u8 (by omega)]
  have z3 : ((3 : Int) = 0) = False := by simp
  have z2 : ((2 : Int) = 0) = False := by simp
  have e3 : (0 : Int) ≤ ((x / 12 % 3 : Nat) : Int) ∧ ((x / 12 % 3 : Nat) : Int) < ((3 : Nat) : Int) := by omega
  have e2 : (0 : Int) ≤ ((x % 12 % 2 : Nat) : Int) ∧ ((x % 12 % 2 : Nat) : Int) < ((2 : Nat) : Int) := by omega
  have g2 : ([.str [80], .str [81]] : List AV)[x % 12 % 2]? = some (.str [if x % 12 % 2 = 0 then 80 else 81]) := by
    have : x % 12 % 2 = 0 ∨ x % 12 % 2 = 1 := by omega
    rcases this with e | e <;> rw [e] <;> rfl
  simp -implicitDefEqProofs (maxDischargeDepth := 15) only [↓reduceIte, Yr, Ys, Yt, Yz, Wa, Wb, Wj, Wk, Wl, Wo, opA, Wv, Ww, Wx, Wy, Wz, Za, Zb, Zc, Zd, Ze, Vb, Vc, Vd, AV.cells, Vg, partA, Zf, Zg, Zh, Zi, Nat.reduceAdd, Nat.reduceLeDiff, Zj, Zk, Zm, Zn, Zo, Zp, Zs, binA, fillA, and_self, Yf, eq_self, c21_1, c21_2, c21_3, c21_4, c21_5, c21_6, c21_7, c21_8, c21_9, c21_10, c21_11, c21_12, c21_13, c21_14, c21_15, c21_16, c21_17, c21_18, c21_19, c21_20, c21_21, c21_22, c21_23, c21_24, c21_25, c21_26, c21_27, c21_28, c21_29, c21_30, c21_31, c1, c2, m2, z2, e2, g2, Nat.mul_one]
  have hS1 := hS.push (.cells [.str [80], .str [81]] true)
  refine (bterm_ok (x / 12) (by omega) _).mono ?_
  rintro u σ2 ⟨xs, rfl, hd, hG⟩
  have hP := hG.sub _ _ (Vg (σ := σ') (b := .cells [.str [80], .str [81]] true))
  have hS2 := hS1.grow hG
  have hd2 := DAtL.sub (sub_newer (so := so) (fun i hi => hS1.lt i hi) hS1.el) _ _ hd
  have hxl : xs.length = 3 := by rw [hd.length, T.dv_len]
  obtain ⟨v, nm, ar, et⟩ := term_is (bTerm (x / 12))
  rw [et] at hd hd2
  obtain ⟨o1, q1, z1, rfl, _⟩ := T.cells hd
  simp -implicitDefEqProofs (maxDischargeDepth := 15) only [↓reduceIte, Ys, Yt, Wb, Wc, Wu, opA, Wv, Ww, Wx, Wy, Wz, Za, Zb, Zc, Zd, Ze, Vb, Vc, Vd, AV.cells, partA, Zf, Zg, Zh, Zi, Nat.reduceAdd, Nat.reduceLeDiff, Zj, Zk, Zm, Zn, Zo, Zp, Zs, fillA, and_self, true_and, againOk, eq_self, g2, hP]
  have hW2 := hS2.grown.wf
  generalize hσ3 : σ2.push (.cells [.bool v, .str nm, .slice o1 ar.length q1 z1] true) = σ3
  have hS3 : Stk e σ1 σ3 so sn sc sz s cs := by rw [← hσ3]; exact hS2.push _
  have hd3 : DAt (but e σ3 so) (.sl 3 1 (T.dvs [bTerm (x / 12)])) (.slice (some (σ2.next, 0)) 1 (some 1) 3) := by
    refine dat_sl (cs := [.bool v, .str nm, .slice o1 ar.length q1 z1]) (w := true) (some 1) (but_mk (fun q => by have := hS2.lt _ q; omega) (by rw [← hσ3, Vg]) (by have := hS2.el; omega)) rfl ?_
    show DAtL _ ((bTerm (x / 12)).dv ++ []) _
    rw [List.append_nil, et, ← hσ3]
    exact DAtL.sub (but_sub (sub_push hW2 _)) _ _ hd2
  refine RunV.to (atom_ok _ _ _ _ _ _) ?_
  obtain ⟨i, es, he, hS4⟩ := ((hS3.push (.cells [.int .u8 1, .str [if x % 12 % 2 = 0 then 80 else 81], .slice (some (σ2.next, 0)) 1 (some 1) 3, nilA] true)).push (.cells [.int .u8 1, .str [if x % 12 % 2 = 0 then 80 else 81], .slice (some (σ2.next, 0)) 1 (some 1) 3, nilA] true)).append
    (f := bAtom (if x % 12 % 2 = 0 then 80 else 81) [bTerm (x / 12)]) (xs := [.int .u8 1, .str [if x % 12 % 2 = 0 then 80 else 81], .slice (some (σ2.next, 0)) 1 (some 1) 3, nilA]) (fdat (DAt.sub (but_sub ((sub_push hS3.grown.wf _).trans (sub_push (hS3.grown.wf.push _) _))) _ _ hd3) (dat_nil _ 4)) rfl (by omega)
  simp -implicitDefEqProofs (maxDischargeDepth := 15) only [↓reduceIte, Yr, Ys, Yt, Wu, opA, Wv, Wx, Wy, Wz, Za, Zb, Zd, Ze, Vb, Vc, Vd, AV.cells, Vg, Zf, Zg, Zh, Zi, Nat.reduceAdd, Zj, Zk, Zm, Zn, Zo, Zp, Zs, Zt, fillA, and_self, lenA, firstA, eq_self, he]
  rw [← hb] at hS4
  exact hQ _ _ _ _ _ _ _ _ _ _ _ _ _ _ _ _ _ _ _ _ _ _ _ _ _ _ _ _ _ _ _ _ _ _ _ _ _ _ _ _ _ _ _ _ _ _ _ _ _ _ _ _ _ _ _ _ _ _ _ _ _ _ _ _ _ _ _ _ _ _ _ _ _ _ _ _ _ _ _ _ _ _ _ _ _ _ _ _ _ _ _ _ _ _ _ _ _ _ _ _ _ _ _ _ _ _ _ _ _ _ _ _ _ _ _ _ _ _ _ _ _ _ _ _ _ _ _ _ _ _ _ _ _ _ _ _ _ _ _ _ _ _ _ _ _ _ _ _ _ _ _ _ _ _ _ _ _ _ _ _ _ _ _ _ _ _ _ _ _ _ _ _ _ _ _ _ _ _ _ _ _ _ _ _ _ _ _ _ _ _ _ _ _ _ hS4 (Nat.le_refl _)
theorem bsw4 {e : Nat} {σ1 σ' : AState} {v0 p2 : AV} {k : Nat} {so : Option (Nat × Nat)} {sn : Nat} {sc : Option Nat} {sz : Nat} {s : List F} {cs : List AV} (hS : Stk e σ1 σ' so sn sc sz s cs) (hsn : sn ≤ 20) {x : Nat} (hx : x < 256) (hr : x % 12 = 5) {j1 j8 j9 j10 j11 j12 j13 j14 j15 j16 j17 j18 j19 j20 j21 j22 j23 j24 j25 j26 j27 j28 j29 j30 j31 j32 j33 j34 j35 j36 j37 j38 j39 j40 j41 j42 j43 j44 j45 j46 j47 j48 j49 j50 j51 j52 j53 j54 j55 j56 j57 j58 j59 j60 j61 j62 j63 j64 j65 j66 j67 j68 j69 j70 j71 j72 j73 j74 j75 j76 j77 j78 j79 j80 j81 j82 j83 j84 j85 j86 j87 j88 j89 j90 j91 j92 j93 j94 j95 j96 j97 j98 j99 j100 j101 j102 j103 j104 j105 j106 j107 j108 j109 j110 j111 j112 j113 j114 j115 j116 j117 j118 j119 j120 j121 j122 j123 j124 j125 j126 j127 j128 j129 j130 j131 j132 j133 j134 j135 j136 j137 j138 j139 j140 j141 j142 j143 j144 j145 j146 j147 j148 j149 j150 j151 j152 j153 j154 j155 j156 j157 j158 j159 j160 j161 j162 j163 j164 j165 j166 j167 j168 j169 j170 j171 j172 j173 j174 j175 j176 j177 j178 j179 j180 j181 j182 j183 j184 j185 j186 j187 j188 j189 j190 j191 : AV} {Q : Ex → List AV → AState → Prop}
    (hQ : ∀ (σ'' : AState) (so' : Option (Nat × Nat)) (sn' : Nat) (sc' : Option Nat) (sz' : Nat) (cs' : List AV) (j1 j5 j6 j7 j8 j9 j10 j11 j12 j13 j14 j15 j16 j17 j18 j19 j20 j21 j22 j23 j24 j25 j26 j27 j28 j29 j30 j31 j32 j33 j34 j35 j36 j37 j38 j39 j40 j41 j42 j43 j44 j45 j46 j47 j48 j49 j50 j51 j52 j53 j54 j55 j56 j57 j58 j59 j60 j61 j62 j63 j64 j65 j66 j67 j68 j69 j70 j71 j72 j73 j74 j75 j76 j77 j78 j79 j80 j81 j82 j83 j84 j85 j86 j87 j88 j89 j90 j91 j92 j93 j94 j95 j96 j97 j98 j99 j100 j101 j102 j103 j104 j105 j106 j107 j108 j109 j110 j111 j112 j113 j114 j115 j116 j117 j118 j119 j120 j121 j122 j123 j124 j125 j126 j127 j128 j129 j130 j131 j132 j133 j134 j135 j136 j137 j138 j139 j140 j141 j142 j143 j144 j145 j146 j147 j148 j149 j150 j151 j152 j153 j154 j155 j156 j157 j158 j159 j160 j161 j162 j163 j164 j165 j166 j167 j168 j169 j170 j171 j172 j173 j174 j175 j176 j177 j178 j179 j180 j181 j182 j183 j184 j185 j186 j187 j188 j189 j190 j191 : AV), Stk e σ1 σ'' so' sn' sc' sz' (bStep s x) cs' → sn' ≤ sn + 1 → Q .normal [v0, j1, p2, .slice so' sn' sc' sz', .int .i64 k, j5, j6, j7, j8, j9, j10, j11, j12, j13, j14, j15, j16, j17, j18, j19, j20, j21, j22, j23, j24, j25, j26, j27, j28, j29, j30, j31, j32, j33, j34, j35, j36, j37, j38, j39, j40, j41, j42, j43, j44, j45, j46, j47, j48, j49, j50, j51, j52, j53, j54, j55, j56, j57, j58, j59, j60, j61, j62, j63, j64, j65, j66, j67, j68, j69, j70, j71, j72, j73, j74, j75, j76, j77, j78, j79, j80, j81, j82, j83, j84, j85, j86, j87, j88, j89, j90, j91, j92, j93, j94, j95, j96, j97, j98, j99, j100, j101, j102, j103, j104, j105, j106, j107, j108, j109, j110, j111, j112, j113, j114, j115, j116, j117, j118, j119, j120, j121, j122, j123, j124, j125, j126, j127, j128, j129, j130, j131, j132, j133, j134, j135, j136, j137, j138, j139, j140, j141, j142, j143, j144, j145, j146, j147, j148, j149, j150, j151, j152, j153, j154, j155, j156, j157, j158, j159, j160, j161, j162, j163, j164, j165, j166, j167, j168, j169, j170, j171, j172, j173, j174, j175, j176, j177, j178, j179, j180, j181, j182, j183, j184, j185, j186, j187, j188, j189, j190, j191] σ'') :
    wpC RR Tryz.prog c21_31 [v0, j1, p2, .slice so sn sc sz, .int .i64 k, .int .i64 sn, .int .u8 (x / 12 : Nat), .int .u8 (x % 12 : Nat), j8, j9, j10, j11, j12, j13, j14, j15, j16, j17, j18, j19, j20, j21, j22, j23, j24, j25, j26, j27, j28, j29, j30, j31, j32, j33, j34, j35, j36, j37, j38, j39, j40, j41, j42, j43, j44, j45, j46, j47, j48, j49, j50, j51, j52, j53, j54, j55, j56, j57, j58, j59, j60, j61, j62, j63, j64, j65, j66, j67, j68, j69, j70, j71, j72, j73, j74, j75, j76, j77, j78, j79, j80, j81, j82, j83, j84, j85, j86, j87, j88, j89, j90, j91, j92, j93, j94, j95, j96, j97, j98, j99, j100, j101, j102, j103, j104, j105, j106, j107, j108, j109, j110, j111, j112, j113, j114, j115, j116, j117, j118, j119, j120, j121, j122, j123, j124, j125, j126, j127, j128, j129, j130, j131, j132, j133, j134, j135, j136, j137, j138, j139, j140, j141, j142, j143, j144, j145, j146, j147, j148, j149, j150, j151, j152, j153, j154, j155, j156, j157, j158, j159, j160, j161, j162, j163, j164, j165, j166, j167, j168, j169, j170, j171, j172, j173, j174, j175, j176, j177, j178, j179, j180, j181, j182, j183, j184, j185, j186, j187, j188, j189, j190, j191] σ' Q := by
  have hb : bStep s x = s ++ [.mk 2 [] [] []] := by unfold bStep; rw [if_neg (by omega), if_neg (by omega), if_neg (by omega), if_pos hr]
  have c1 : decide (((x % 12 : Nat) : Int) < 2) = false := decide_eq_false (by omega)
  have c2 : decide (((x % 12 : Nat) : Int) < 4) = false := decide_eq_false (by omega)
  have c3 : (((x % 12 : Nat) : Int) == 4) = false := by simp only [beq_eq_false_iff_ne]; omega
  have c4 : (((x % 12 : Nat) : Int) == 5) = true := by simp only [beq_iff_eq]; omega
  simp -implicitDefEqProofs (maxDischargeDepth := 15) only [↓reduceIte, Yr, Ys, Yt, Yz, Wa, Wb, Wj, Wk, Wl, Wo, opA, Wv, Ww, Wx, Wy, Wz, Za, Zb, Vb, Zh, Zi, binA, eq_self, c21_1, c21_2, c21_3, c21_4, c21_5, c21_6, c21_7, c21_8, c21_9, c21_10, c21_11, c21_12, c21_13, c21_14, c21_15, c21_16, c21_17, c21_18, c21_19, c21_20, c21_21, c21_22, c21_23, c21_24, c21_25, c21_26, c21_27, c21_28, c21_29, c21_30, c21_31, c1, c2, c3, c4]
  refine RunV.to (joinB_ok _ _ _ _ _ _) ?_
  obtain ⟨i, es, he, hS4⟩ := ((hS.push (.cells [.int .u8 2, .str [], nilA, nilA] true)).push (.cells [.int .u8 2, .str [], nilA, nilA] true)).append
    (f := .mk 2 [] [] []) (xs := [.int .u8 2, .str [], nilA, nilA]) (fdat (dat_nil _ 3) (dat_nil _ 4)) rfl (by omega)
  simp -implicitDefEqProofs (maxDischargeDepth := 15) only [↓reduceIte, Yr, Ys, Yt, Wu, opA, Wv, Wx, Wy, Wz, Za, Zb, Zd, Ze, Vb, Vc, Vd, AV.cells, Vg, Zf, Zg, Zh, Zi, Nat.reduceAdd, Zj, Zk, Zm, Zn, Zo, Zp, Zs, Zt, fillA, and_self, lenA, firstA, eq_self, he]
  rw [← hb] at hS4
  exact hQ _ _ _ _ _ _ _ _ _ _ _ _ _ _ _ _ _ _ _ _ _ _ _ _ _ _ _ _ _ _ _ _ _ _ _ _ _ _ _ _ _ _ _ _ _ _ _ _ _ _ _ _ _ _ _ _ _ _ _ _ _ _ _ _ _ _ _ _ _ _ _ _ _ _ _ _ _ _ _ _ _ _ _ _ _ _ _ _ _ _ _ _ _ _ _ _ _ _ _ _ _ _ _ _ _ _ _ _ _ _ _ _ _ _ _ _ _ _ _ _ _ _ _ _ _ _ _ _ _ _ _ _ _ _ _ _ _ _ _ _ _ _ _ _ _ _ _ _ _ _ _ _ _ _ _ _ _ _ _ _ _ _ _ _ _ _ _ _ _ _ _ _ _ _ _ _ _ _ _ _ _ _ _ _ _ _ _ _ _ _ _ _ _ _ hS4 (Nat.le_refl _)
end Go.Am
namespace Go.Am
open Go.RowKit Go.Proofs Do
set_option maxRecDepth 100000
theorem bsw3 {e : Nat} {σ1 σ' : AState} {v0 p2 : AV} {k : Nat} {so : Option (Nat × Nat)} {sn : Nat} {sc : Option Nat} {sz : Nat} {s : List F} {cs : List AV} (hS : Stk e σ1 σ' so sn sc sz s cs) (hsn : sn ≤ 20) {x : Nat} (hx : x < 256) (hr : x % 12 = 4) {j1 j8 j9 j10 j11 j12 j13 j14 j15 j16 j17 j18 j19 j20 j21 j22 j23 j24 j25 j26 j27 j28 j29 j30 j31 j32 j33 j34 j35 j36 j37 j38 j39 j40 j41 j42 j43 j44 j45 j46 j47 j48 j49 j50 j51 j52 j53 j54 j55 j56 j57 j58 j59 j60 j61 j62 j63 j64 j65 j66 j67 j68 j69 j70 j71 j72 j73 j74 j75 j76 j77 j78 j79 j80 j81 j82 j83 j84 j85 j86 j87 j88 j89 j90 j91 j92 j93 j94 j95 j96 j97 j98 j99 j100 j101 j102 j103 j104 j105 j106 j107 j108 j109 j110 j111 j112 j113 j114 j115 j116 j117 j118 j119 j120 j121 j122 j123 j124 j125 j126 j127 j128 j129 j130 j131 j132 j133 j134 j135 j136 j137 j138 j139 j140 j141 j142 j143 j144 j145 j146 j147 j148 j149 j150 j151 j152 j153 j154 j155 j156 j157 j158 j159 j160 j161 j162 j163 j164 j165 j166 j167 j168 j169 j170 j171 j172 j173 j174 j175 j176 j177 j178 j179 j180 j181 j182 j183 j184 j185 j186 j187 j188 j189 j190 j191 : AV} {Q : Ex → List AV → AState → Prop}
    (hQ : ∀ (σ'' : AState) (so' : Option (Nat × Nat)) (sn' : Nat) (sc' : Option Nat) (sz' : Nat) (cs' : List AV) (j1 j5 j6 j7 j8 j9 j10 j11 j12 j13 j14 j15 j16 j17 j18 j19 j20 j21 j22 j23 j24 j25 j26 j27 j28 j29 j30 j31 j32 j33 j34 j35 j36 j37 j38 j39 j40 j41 j42 j43 j44 j45 j46 j47 j48 j49 j50 j51 j52 j53 j54 j55 j56 j57 j58 j59 j60 j61 j62 j63 j64 j65 j66 j67 j68 j69 j70 j71 j72 j73 j74 j75 j76 j77 j78 j79 j80 j81 j82 j83 j84 j85 j86 j87 j88 j89 j90 j91 j92 j93 j94 j95 j96 j97 j98 j99 j100 j101 j102 j103 j104 j105 j106 j107 j108 j109 j110 j111 j112 j113 j114 j115 j116 j117 j118 j119 j120 j121 j122 j123 j124 j125 j126 j127 j128 j129 j130 j131 j132 j133 j134 j135 j136 j137 j138 j139 j140 j141 j142 j143 j144 j145 j146 j147 j148 j149 j150 j151 j152 j153 j154 j155 j156 j157 j158 j159 j160 j161 j162 j163 j164 j165 j166 j167 j168 j169 j170 j171 j172 j173 j174 j175 j176 j177 j178 j179 j180 j181 j182 j183 j184 j185 j186 j187 j188 j189 j190 j191 : AV), Stk e σ1 σ'' so' sn' sc' sz' (bStep s x) cs' → sn' ≤ sn + 1 → Q .normal [v0, j1, p2, .slice so' sn' sc' sz', .int .i64 k, j5, j6, j7, j8, j9, j10, j11, j12, j13, j14, j15, j16, j17, j18, j19, j20, j21, j22, j23, j24, j25, j26, j27, j28, j29, j30, j31, j32, j33, j34, j35, j36, j37, j38, j39, j40, j41, j42, j43, j44, j45, j46, j47, j48, j49, j50, j51, j52, j53, j54, j55, j56, j57, j58, j59, j60, j61, j62, j63, j64, j65, j66, j67, j68, j69, j70, j71, j72, j73, j74, j75, j76, j77, j78, j79, j80, j81, j82, j83, j84, j85, j86, j87, j88, j89, j90, j91, j92, j93, j94, j95, j96, j97, j98, j99, j100, j101, j102, j103, j104, j105, j106, j107, j108, j109, j110, j111, j112, j113, j114, j115, j116, j117, j118, j119, j120, j121, j122, j123, j124, j125, j126, j127, j128, j129, j130, j131, j132, j133, j134, j135, j136, j137, j138, j139, j140, j141, j142, j143, j144, j145, j146, j147, j148, j149, j150, j151, j152, j153, j154, j155, j156, j157, j158, j159, j160, j161, j162, j163, j164, j165, j166, j167, j168, j169, j170, j171, j172, j173, j174, j175, j176, j177, j178, j179, j180, j181, j182, j183, j184, j185, j186, j187, j188, j189, j190, j191] σ'') :
    wpC RR Tryz.prog c21_31 [v0, j1, p2, .slice so sn sc sz, .int .i64 k, .int .i64 sn, .int .u8 (x / 12 : Nat), .int .u8 (x % 12 : Nat), j8, j9, j10, j11, j12, j13, j14, j15, j16, j17, j18, j19, j20, j21, j22, j23, j24, j25, j26, j27, j28, j29, j30, j31, j32, j33, j34, j35, j36, j37, j38, j39, j40, j41, j42, j43, j44, j45, j46, j47, j48, j49, j50, j51, j52, j53, j54, j55, j56, j57, j58, j59, j60, j61, j62, j63, j64, j65, j66, j67, j68, j69, j70, j71, j72, j73, j74, j75, j76, j77, j78, j79, j80, j81, j82, j83, j84, j85, j86, j87, j88, j89, j90, j91, j92, j93, j94, j95, j96, j97, j98, j99, j100, j101, j102, j103, j104, j105, j106, j107, j108, j109, j110, j111, j112, j113, j114, j115, j116, j117, j118, j119, j120, j121, j122, j123, j124, j125, j126, j127, j128, j129, j130, j131, j132, j133, j134, j135, j136, j137, j138, j139, j140, j141, j142, j143, j144, j145, j146, j147, j148, j149, j150, j151, j152, j153, j154, j155, j156, j157, j158, j159, j160, j161, j162, j163, j164, j165, j166, j167, j168, j169, j170, j171, j172, j173, j174, j175, j176, j177, j178, j179, j180, j181, j182, j183, j184, j185, j186, j187, j188, j189, j190, j191] σ' Q := by
  have hb : bStep s x = s ++ [bAtom 82 [bTerm (x / 12), bTerm (x / 12 / 3)]] := by unfold bStep; rw [if_neg (by omega), if_neg (by omega), if_pos hr]
  have c1 : decide (((x % 12 : Nat) : Int) < 2) = false := decide_eq_false (by omega)
  have c2 : decide (((x % 12 : Nat) : Int) < 4) = false := decide_eq_false (by omega)
  have c3 : (((x % 12 : Nat) : Int) == 4) = true := by simp only [beq_iff_eq]; omega
  have d3 : wrapF .u8 (((x / 12 : Nat) : Int).tdiv 3) = ((x / 12 / 3 : Nat) : Int) := by rw [show (3 : Int) = ((3 : Nat) : Int) from rfl, tdivN, wrap_u8 (by omega)]
  have z3 : ((3 : Int) = 0) = False := by simp
  simp -implicitDefEqProofs (maxDischargeDepth := 15) only [↓reduceIte, Yr, Ys, Yt, Yz, Wa, Wb, Wj, Wk, Wl, Wo, opA, Wv, Ww, Wx, Wy, Wz, Za, Zb, Vb, Zh, Zi, binA, eq_self, c21_1, c21_2, c21_3, c21_4, c21_5, c21_6, c21_7, c21_8, c21_9, c21_10, c21_11, c21_12, c21_13, c21_14, c21_15, c21_16, c21_17, c21_18, c21_19, c21_20, c21_21, c21_22, c21_23, c21_24, c21_25, c21_26, c21_27, c21_28, c21_29, c21_30, c21_31, c1, c2, c3]
  refine (bterm_ok (x / 12) (by omega) _).mono ?_
  rintro u σ2 ⟨xs, rfl, hd, hG⟩
  have hS2 := hS.grow hG
  have hd2 := DAtL.sub (sub_newer (so := so) (fun i hi => hS.lt i hi) hS.el) _ _ hd
  have hxl : xs.length = 3 := by rw [hd.length, T.dv_len]
  obtain ⟨v, nm, ar, et⟩ := term_is (bTerm (x / 12))
  rw [et] at hd hd2
  obtain ⟨o1, q1, z1, rfl, _⟩ := T.cells hd
  simp -implicitDefEqProofs (maxDischargeDepth := 15) only [↓reduceIte, Ys, Yt, Wb, Wu, opA, Wv, Ww, Wx, Wy, Wz, Za, Zb, Vb, Zh, Zi, binA, eq_self, d3, z3]
  refine (bterm_ok (x / 12 / 3) (by omega) _).mono ?_
  rintro u σ3 ⟨ys, rfl, hd', hG3⟩
  have hS3 := hS2.grow hG3
  have hd2' := DAtL.sub (sub_newer (so := so) (fun i hi => hS2.lt i hi) hS2.el) _ _ hd'
  obtain ⟨v', nm', ar', et'⟩ := term_is (bTerm (x / 12 / 3))
  rw [et'] at hd' hd2'
  obtain ⟨o1', q1', z1', rfl, _⟩ := T.cells hd'
  have hd23 := DAtL.sub (but_sub (so := so) hG3.sub) _ _ hd2
  simp -implicitDefEqProofs (maxDischargeDepth := 15) only [↓reduceIte, Ys, Yt, Wb, Wu, opA, Wv, Ww, Wx, Wy, Wz, Za, Zb, Zc, Zd, Ze, Vb, Vc, Vd, AV.cells, Zf, Zg, Zh, Zi, Nat.reduceAdd, Nat.reduceLeDiff, Zj, Zk, Zm, Zn, Zo, Zp, Zs, fillA, and_self, eq_self]
  have hW3 := hS3.grown.wf
  generalize hσ4 : σ3.push (.cells [.bool v, .str nm, .slice o1 ar.length q1 z1, .bool v', .str nm', .slice o1' ar'.length q1' z1'] true) = σ4
  have hS4 : Stk e σ1 σ4 so sn sc sz s cs := by rw [← hσ4]; exact hS3.push _
  have hd4 : DAt (but e σ4 so) (.sl 3 2 (T.dvs [bTerm (x / 12), bTerm (x / 12 / 3)])) (.slice (some (σ3.next, 0)) 2 (some 2) 3) := by
    refine dat_sl (cs := [.bool v, .str nm, .slice o1 ar.length q1 z1] ++ [.bool v', .str nm', .slice o1' ar'.length q1' z1']) (w := true) (some 2) (but_mk (fun q => by have := hS3.lt _ q; omega) (by rw [← hσ4, Vg]; rfl) (by have := hS3.el; omega)) rfl ?_
    show DAtL _ ((bTerm (x / 12)).dv ++ ((bTerm (x / 12 / 3)).dv ++ [])) _
    rw [List.append_nil, et, et', ← hσ4]
    exact DAtL.append_iff.2 ⟨_, _, rfl, DAtL.sub (but_sub (sub_push hW3 _)) _ _ hd23, DAtL.sub (but_sub (sub_push hW3 _)) _ _ hd2'⟩
  refine RunV.to (atom_ok _ _ _ _ _ _) ?_
  obtain ⟨i, es, he, hS5⟩ := ((hS4.push (.cells [.int .u8 1, .str [82], .slice (some (σ3.next, 0)) 2 (some 2) 3, nilA] true)).push (.cells [.int .u8 1, .str [82], .slice (some (σ3.next, 0)) 2 (some 2) 3, nilA] true)).append
    (f := bAtom 82 [bTerm (x / 12), bTerm (x / 12 / 3)]) (xs := [.int .u8 1, .str [82], .slice (some (σ3.next, 0)) 2 (some 2) 3, nilA]) (fdat (DAt.sub (but_sub ((sub_push hS4.grown.wf _).trans (sub_push (hS4.grown.wf.push _) _))) _ _ hd4) (dat_nil _ 4)) rfl (by omega)
  simp -implicitDefEqProofs (maxDischargeDepth := 15) only [↓reduceIte, Yr, Ys, Yt, Wu, opA, Wv, Wx, Wy, Wz, Za, Zb, Zd, Ze, Vb, Vc, Vd, AV.cells, Vg, Zf, Zg, Zh, Zi, Nat.reduceAdd, Zj, Zk, Zm, Zn, Zo, Zp, Zs, Zt, fillA, and_self, lenA, firstA, eq_self, he]
  rw [← hb] at hS5
  exact hQ _ _ _ _ _ _ _ _ _ _ _ _ _ _ _ _ _ _ _ _ _ _ _ _ _ _ _ _ _ _ _ _ _ _ _ _ _ _ _ _ _ _ _ _ _ _ _ _ _ _ _ _ _ _ _ _ _ _ _ _ _ _ _ _ _ _ _ _ _ _ _ _ _ _ _ _ _ _ _ _ _ _ _ _ _ _ _ _ _ _ _ _ _ _ _ _ _ _ _ _ _ _ _ _ _ _ _ _ _ _ _ _ _ _ _ _ _ _ _ _ _ _ _ _ _ _ _ _ _ _ _ _ _ _ _ _ _ _ _ _ _ _ _ _ _ _ _ _ _ _ _ _ _ _ _ _ _ _ _ _ _ _ _ _ _ _ _ _ _ _ _ _ _ _ _ _ _ _ _ _ _ _ _ _ _ _ _ _ _ _ _ _ _ _ hS5 (Nat.le_refl _)
theorem bsw5 {e : Nat} {σ1 σ' : AState} {v0 p2 : AV} {k : Nat} {so : Option (Nat × Nat)} {sn : Nat} {sc : Option Nat} {sz : Nat} {s : List F} {cs : List AV} (hS : Stk e σ1 σ' so sn sc sz s cs) (hsn : sn ≤ 20) {x : Nat} (hx : x < 256) (hr : x % 12 = 6 ∧ 1 ≤ sn) {j1 j8 j9 j10 j11 j12 j13 j14 j15 j16 j17 j18 j19 j20 j21 j22 j23 j24 j25 j26 j27 j28 j29 j30 j31 j32 j33 j34 j35 j36 j37 j38 j39 j40 j41 j42 j43 j44 j45 j46 j47 j48 j49 j50 j51 j52 j53 j54 j55 j56 j57 j58 j59 j60 j61 j62 j63 j64 j65 j66 j67 j68 j69 j70 j71 j72 j73 j74 j75 j76 j77 j78 j79 j80 j81 j82 j83 j84 j85 j86 j87 j88 j89 j90 j91 j92 j93 j94 j95 j96 j97 j98 j99 j100 j101 j102 j103 j104 j105 j106 j107 j108 j109 j110 j111 j112 j113 j114 j115 j116 j117 j118 j119 j120 j121 j122 j123 j124 j125 j126 j127 j128 j129 j130 j131 j132 j133 j134 j135 j136 j137 j138 j139 j140 j141 j142 j143 j144 j145 j146 j147 j148 j149 j150 j151 j152 j153 j154 j155 j156 j157 j158 j159 j160 j161 j162 j163 j164 j165 j166 j167 j168 j169 j170 j171 j172 j173 j174 j175 j176 j177 j178 j179 j180 j181 j182 j183 j184 j185 j186 j187 j188 j189 j190 j191 : AV} {Q : Ex → List AV → AState → Prop}
    (hQ : ∀ (σ'' : AState) (so' : Option (Nat × Nat)) (sn' : Nat) (sc' : Option Nat) (sz' : Nat) (cs' : List AV) (j1 j5 j6 j7 j8 j9 j10 j11 j12 j13 j14 j15 j16 j17 j18 j19 j20 j21 j22 j23 j24 j25 j26 j27 j28 j29 j30 j31 j32 j33 j34 j35 j36 j37 j38 j39 j40 j41 j42 j43 j44 j45 j46 j47 j48 j49 j50 j51 j52 j53 j54 j55 j56 j57 j58 j59 j60 j61 j62 j63 j64 j65 j66 j67 j68 j69 j70 j71 j72 j73 j74 j75 j76 j77 j78 j79 j80 j81 j82 j83 j84 j85 j86 j87 j88 j89 j90 j91 j92 j93 j94 j95 j96 j97 j98 j99 j100 j101 j102 j103 j104 j105 j106 j107 j108 j109 j110 j111 j112 j113 j114 j115 j116 j117 j118 j119 j120 j121 j122 j123 j124 j125 j126 j127 j128 j129 j130 j131 j132 j133 j134 j135 j136 j137 j138 j139 j140 j141 j142 j143 j144 j145 j146 j147 j148 j149 j150 j151 j152 j153 j154 j155 j156 j157 j158 j159 j160 j161 j162 j163 j164 j165 j166 j167 j168 j169 j170 j171 j172 j173 j174 j175 j176 j177 j178 j179 j180 j181 j182 j183 j184 j185 j186 j187 j188 j189 j190 j191 : AV), Stk e σ1 σ'' so' sn' sc' sz' (bStep s x) cs' → sn' ≤ sn + 1 → Q .normal [v0, j1, p2, .slice so' sn' sc' sz', .int .i64 k, j5, j6, j7, j8, j9, j10, j11, j12, j13, j14, j15, j16, j17, j18, j19, j20, j21, j22, j23, j24, j25, j26, j27, j28, j29, j30, j31, j32, j33, j34, j35, j36, j37, j38, j39, j40, j41, j42, j43, j44, j45, j46, j47, j48, j49, j50, j51, j52, j53, j54, j55, j56, j57, j58, j59, j60, j61, j62, j63, j64, j65, j66, j67, j68, j69, j70, j71, j72, j73, j74, j75, j76, j77, j78, j79, j80, j81, j82, j83, j84, j85, j86, j87, j88, j89, j90, j91, j92, j93, j94, j95, j96, j97, j98, j99, j100, j101, j102, j103, j104, j105, j106, j107, j108, j109, j110, j111, j112, j113, j114, j115, j116, j117, j118, j119, j120, j121, j122, j123, j124, j125, j126, j127, j128, j129, j130, j131, j132, j133, j134, j135, j136, j137, j138, j139, j140, j141, j142, j143, j144, j145, j146, j147, j148, j149, j150, j151, j152, j153, j154, j155, j156, j157, j158, j159, j160, j161, j162, j163, j164, j165, j166, j167, j168, j169, j170, j171, j172, j173, j174, j175, j176, j177, j178, j179, j180, j181, j182, j183, j184, j185, j186, j187, j188, j189, j190, j191] σ'') :
    wpC RR Tryz.prog c21_31 [v0, j1, p2, .slice so sn sc sz, .int .i64 k, .int .i64 sn, .int .u8 (x / 12 : Nat), .int .u8 (x % 12 : Nat), j8, j9, j10, j11, j12, j13, j14, j15, j16, j17, j18, j19, j20, j21, j22, j23, j24, j25, j26, j27, j28, j29, j30, j31, j32, j33, j34, j35, j36, j37, j38, j39, j40, j41, j42, j43, j44, j45, j46, j47, j48, j49, j50, j51, j52, j53, j54, j55, j56, j57, j58, j59, j60, j61, j62, j63, j64, j65, j66, j67, j68, j69, j70, j71, j72, j73, j74, j75, j76, j77, j78, j79, j80, j81, j82, j83, j84, j85, j86, j87, j88, j89, j90, j91, j92, j93, j94, j95, j96, j97, j98, j99, j100, j101, j102, j103, j104, j105, j106, j107, j108, j109, j110, j111, j112, j113, j114, j115, j116, j117, j118, j119, j120, j121, j122, j123, j124, j125, j126, j127, j128, j129, j130, j131, j132, j133, j134, j135, j136, j137, j138, j139, j140, j141, j142, j143, j144, j145, j146, j147, j148, j149, j150, j151, j152, j153, j154, j155, j156, j157, j158, j159, j160, j161, j162, j163, j164, j165, j166, j167, j168, j169, j170, j171, j172, j173, j174, j175, j176, j177, j178, j179, j180, j181, j182, j183, j184, j185, j186, j187, j188, j189, j190, j191] σ' Q := by
  have hlen := hS.len
  have hcase : sc = none ∧ sz = 4 ∧ ∃ i, so = some (i, 0) ∧ σ'.get i = some (.cells cs true) := by
    rcases hS.grown.at' with ⟨_, q⟩ | ⟨q1, q2, i, q3, _, q4⟩
    · omega
    · exact ⟨q1, q2, i, q3, q4⟩
  obtain ⟨rfl, rfl, i, rfl, hgi⟩ := hcase
  have hil := hS.lt i rfl
  have hcl := hS.grown.len
  obtain ⟨f, hf⟩ : ∃ f, s[sn - 1]? = some f := ⟨s[sn - 1]'(by omega), List.getElem?_eq_getElem _⟩
  have hdrop : s.drop (s.length - 1) = [f] := by
    rw [hlen]
    refine List.ext_getElem? fun j => ?_
    rw [List.getElem?_drop]
    cases j with
    | zero => simpa using hf
    | succ j => rw [List.getElem?_eq_none (by omega)]; simp
  have hb : bStep s x = s.take (sn - 1) ++ [.mk (if x / 12 % 3 = 0 then 3 else if x / 12 % 3 = 1 then 10 else 12) [] [] [f]] := by
    unfold bStep; rw [if_neg (by omega), if_neg (by omega), if_neg (by omega), if_neg (by omega), if_pos ⟨hr.1, by omega⟩, hdrop, hlen]
  obtain ⟨_, i', xs, e', _, hl4, hxs, hd⟩ := hS.elem hf
  cases e'
  obtain ⟨fo, fn, fa, fl, ef⟩ := form_is f
  subst ef
  have hd0 := hd
  obtain ⟨o1, q1, z1, o2, q2, z2, rfl, _, _⟩ := F.cells hd
  have c1 : decide (((x % 12 : Nat) : Int) < 2) = false := decide_eq_false (by omega)
  have c2 : decide (((x % 12 : Nat) : Int) < 4) = false := decide_eq_false (by omega)
  have c3 : (((x % 12 : Nat) : Int) == 4) = false := by simp only [beq_eq_false_iff_ne]; omega
  have c4 : (((x % 12 : Nat) : Int) == 5) = false := by simp only [beq_eq_false_iff_ne]; omega
  have c5 : (((x % 12 : Nat) : Int) == 6) = true := by simp only [beq_iff_eq]; omega
  have c6 : decide ((sn : Int) ≥ 1) = true := decide_eq_true (by omega)
  have w1 : wrapF .i64 ((sn : Int) - 1) = ((sn - 1 : Nat) : Int) := by rw [wrap_i64 (by omega)]; omega
  have l1 : sn - 1 ≤ sn := by omega
  have m3 : ((x / 12 : Nat) : Int).tmod 3 = ((x / 12 % 3 : Nat) : Int) := tmodN _ 3
  have z3 : ((3 : Int) = 0) = False := by simp
  have e3 : (0 : Int) ≤ ((x / 12 % 3 : Nat) : Int) ∧ ((x / 12 % 3 : Nat) : Int) < ((3 : Nat) : Int) := by omega
  have e4 : (0 : Int) ≤ ((sn - 1 : Nat) : Int) ∧ ((sn - 1 : Nat) : Int) < (sn : Int) := by omega
  have g3 : ([.int .u8 3, .int .u8 10, .int .u8 12] : List AV)[x / 12 % 3]? = some (.int .u8 ((if x / 12 % 3 = 0 then 3 else if x / 12 % 3 = 1 then 10 else 12 : Nat) : Int)) := by
    have : x / 12 % 3 = 0 ∨ x / 12 % 3 = 1 ∨ x / 12 % 3 = 2 := by omega
    rcases this with e | e | e <;> rw [e] <;> rfl
  generalize (if x / 12 % 3 = 0 then 3 else if x / 12 % 3 = 1 then 10 else 12 : Nat) = op at *
  simp -implicitDefEqProofs (maxDischargeDepth := 15) only [↓reduceIte, Yr, Ys, Yt, Yv, Yz, Wa, Wb, Wd, Wj, Wk, Wl, Wo, opA, Wv, Ww, Wx, Wy, Wz, Za, Zb, Zc, Zd, Ze, Vb, Vc, Vd, AV.cells, Vg, Vh, partA, Zf, Zg, Zh, Zi, Nat.reduceAdd, Nat.reduceLeDiff, Zj, Zk, Zl, Zm, Zn, Zo, Zp, Zs, binA, fillA, and_self, Zz, reduceCtorEq, Yf, natOf, upTo, bMax, bHigh, bLow, boundsA, evO, Yh, Yi, Vu, Vv, Yj, eq_self, Yl, or_true, c21_1, c21_2, c21_3, c21_4, c21_5, c21_6, c21_7, c21_8, c21_9, c21_10, c21_11, c21_12, c21_13, c21_14, c21_15, c21_16, c21_17, c21_18, c21_19, c21_20, c21_21, c21_22, c21_23, c21_24, c21_25, c21_26, c21_27, c21_28, c21_29, c21_30, c21_31, c1, c2, c3, c4, c5, c6, w1, l1, m3, z3, e3, e4, g3, Nat.mul_one, Nat.sub_zero, hgi, hil, hl4, hxs]
  refine RunV.to (joinB_ok _ _ _ _ _ _) ?_
  have hS2 := (hS.push (.cells [.int .u8 3, .int .u8 10, .int .u8 12] true))
  have hW2 := hS2.grown.wf
  have hd3 : DAt (but e ((σ'.push (.cells [.int .u8 3, .int .u8 10, .int .u8 12] true)).push (.cells [.int .u8 fo, .str fn, .slice o1 fa.length q1 z1, .slice o2 fl.length q2 z2] true)) (some (i, 0))) (.sl 4 1 (F.dvs [F.mk fo fn fa fl])) (.slice (some ((σ'.push (.cells [.int .u8 3, .int .u8 10, .int .u8 12] true)).next, 0)) 1 (some 1) 4) := by
    refine dat_sl (cs := [.int .u8 fo, .str fn, .slice o1 fa.length q1 z1, .slice o2 fl.length q2 z2]) (w := true) (some 1) (but_mk (fun q => by have := hS2.lt _ q; omega) Vg (by have := hS2.el; omega)) rfl ?_
    rw [dvs_one]
    exact DAtL.sub (but_sub ((sub_push hS.grown.wf _).trans (sub_push hW2 _))) _ _ hd0
  have hS3 := hS2.push (.cells [.int .u8 fo, .str fn, .slice o1 fa.length q1 z1, .slice o2 fl.length q2 z2] true)
  have hW3 := hS3.grown.wf
  have hS5 := (hS3.push (.cells [.int .u8 op, .str [], nilA, .slice (some ((σ'.push (.cells [.int .u8 3, .int .u8 10, .int .u8 12] true)).next, 0)) 1 (some 1) 4] true)).push (.cells [.int .u8 op, .str [], nilA, .slice (some ((σ'.push (.cells [.int .u8 3, .int .u8 10, .int .u8 12] true)).next, 0)) 1 (some 1) 4] true)
  obtain ⟨he, hS6⟩ := hS5.appendTake (k := sn - 1) rfl (by omega) (f := .mk op [] [] [F.mk fo fn fa fl]) (xs := [.int .u8 op, .str [], nilA, .slice (some ((σ'.push (.cells [.int .u8 3, .int .u8 10, .int .u8 12] true)).next, 0)) 1 (some 1) 4])
    (fdat (dat_nil _ 3) (DAt.sub (but_sub ((sub_push hW3 _).trans (sub_push (hW3.push _) _))) _ _ hd3)) (by omega)
  simp -implicitDefEqProofs (maxDischargeDepth := 15) only [↓reduceIte, Yr, Ys, Yt, Wu, opA, Wv, Wx, Wy, Wz, Za, Zb, Zd, Ze, Vb, Vc, Vd, AV.cells, Vg, Zf, Zg, Zh, Zi, Nat.reduceAdd, Zj, Zk, Zm, Zn, Zo, Zp, Zs, Zt, fillA, and_self, lenA, firstA, eq_self, he]
  rw [← hb] at hS6
  exact hQ _ _ _ _ _ _ _ _ _ _ _ _ _ _ _ _ _ _ _ _ _ _ _ _ _ _ _ _ _ _ _ _ _ _ _ _ _ _ _ _ _ _ _ _ _ _ _ _ _ _ _ _ _ _ _ _ _ _ _ _ _ _ _ _ _ _ _ _ _ _ _ _ _ _ _ _ _ _ _ _ _ _ _ _ _ _ _ _ _ _ _ _ _ _ _ _ _ _ _ _ _ _ _ _ _ _ _ _ _ _ _ _ _ _ _ _ _ _ _ _ _ _ _ _ _ _ _ _ _ _ _ _ _ _ _ _ _ _ _ _ _ _ _ _ _ _ _ _ _ _ _ _ _ _ _ _ _ _ _ _ _ _ _ _ _ _ _ _ _ _ _ _ _ _ _ _ _ _ _ _ _ _ _ _ _ _ _ _ _ _ _ _ _ _ hS6 (by omega)
end Go.Am
namespace Go.Am
open Go.RowKit Go.Proofs Do
set_option maxRecDepth 100000
theorem bsw6 {e : Nat} {σ1 σ' : AState} {v0 p2 : AV} {k : Nat} {so : Option (Nat × Nat)} {sn : Nat} {sc : Option Nat} {sz : Nat} {s : List F} {cs : List AV} (hS : Stk e σ1 σ' so sn sc sz s cs) (hsn : sn ≤ 20) {x : Nat} (hx : x < 256) (hr : 7 ≤ x % 12 ∧ x % 12 < 10 ∧ 2 ≤ sn) {j1 j8 j9 j10 j11 j12 j13 j14 j15 j16 j17 j18 j19 j20 j21 j22 j23 j24 j25 j26 j27 j28 j29 j30 j31 j32 j33 j34 j35 j36 j37 j38 j39 j40 j41 j42 j43 j44 j45 j46 j47 j48 j49 j50 j51 j52 j53 j54 j55 j56 j57 j58 j59 j60 j61 j62 j63 j64 j65 j66 j67 j68 j69 j70 j71 j72 j73 j74 j75 j76 j77 j78 j79 j80 j81 j82 j83 j84 j85 j86 j87 j88 j89 j90 j91 j92 j93 j94 j95 j96 j97 j98 j99 j100 j101 j102 j103 j104 j105 j106 j107 j108 j109 j110 j111 j112 j113 j114 j115 j116 j117 j118 j119 j120 j121 j122 j123 j124 j125 j126 j127 j128 j129 j130 j131 j132 j133 j134 j135 j136 j137 j138 j139 j140 j141 j142 j143 j144 j145 j146 j147 j148 j149 j150 j151 j152 j153 j154 j155 j156 j157 j158 j159 j160 j161 j162 j163 j164 j165 j166 j167 j168 j169 j170 j171 j172 j173 j174 j175 j176 j177 j178 j179 j180 j181 j182 j183 j184 j185 j186 j187 j188 j189 j190 j191 : AV} {Q : Ex → List AV → AState → Prop}
    (hQ : ∀ (σ'' : AState) (so' : Option (Nat × Nat)) (sn' : Nat) (sc' : Option Nat) (sz' : Nat) (cs' : List AV) (j1 j5 j6 j7 j8 j9 j10 j11 j12 j13 j14 j15 j16 j17 j18 j19 j20 j21 j22 j23 j24 j25 j26 j27 j28 j29 j30 j31 j32 j33 j34 j35 j36 j37 j38 j39 j40 j41 j42 j43 j44 j45 j46 j47 j48 j49 j50 j51 j52 j53 j54 j55 j56 j57 j58 j59 j60 j61 j62 j63 j64 j65 j66 j67 j68 j69 j70 j71 j72 j73 j74 j75 j76 j77 j78 j79 j80 j81 j82 j83 j84 j85 j86 j87 j88 j89 j90 j91 j92 j93 j94 j95 j96 j97 j98 j99 j100 j101 j102 j103 j104 j105 j106 j107 j108 j109 j110 j111 j112 j113 j114 j115 j116 j117 j118 j119 j120 j121 j122 j123 j124 j125 j126 j127 j128 j129 j130 j131 j132 j133 j134 j135 j136 j137 j138 j139 j140 j141 j142 j143 j144 j145 j146 j147 j148 j149 j150 j151 j152 j153 j154 j155 j156 j157 j158 j159 j160 j161 j162 j163 j164 j165 j166 j167 j168 j169 j170 j171 j172 j173 j174 j175 j176 j177 j178 j179 j180 j181 j182 j183 j184 j185 j186 j187 j188 j189 j190 j191 : AV), Stk e σ1 σ'' so' sn' sc' sz' (bStep s x) cs' → sn' ≤ sn + 1 → Q .normal [v0, j1, p2, .slice so' sn' sc' sz', .int .i64 k, j5, j6, j7, j8, j9, j10, j11, j12, j13, j14, j15, j16, j17, j18, j19, j20, j21, j22, j23, j24, j25, j26, j27, j28, j29, j30, j31, j32, j33, j34, j35, j36, j37, j38, j39, j40, j41, j42, j43, j44, j45, j46, j47, j48, j49, j50, j51, j52, j53, j54, j55, j56, j57, j58, j59, j60, j61, j62, j63, j64, j65, j66, j67, j68, j69, j70, j71, j72, j73, j74, j75, j76, j77, j78, j79, j80, j81, j82, j83, j84, j85, j86, j87, j88, j89, j90, j91, j92, j93, j94, j95, j96, j97, j98, j99, j100, j101, j102, j103, j104, j105, j106, j107, j108, j109, j110, j111, j112, j113, j114, j115, j116, j117, j118, j119, j120, j121, j122, j123, j124, j125, j126, j127, j128, j129, j130, j131, j132, j133, j134, j135, j136, j137, j138, j139, j140, j141, j142, j143, j144, j145, j146, j147, j148, j149, j150, j151, j152, j153, j154, j155, j156, j157, j158, j159, j160, j161, j162, j163, j164, j165, j166, j167, j168, j169, j170, j171, j172, j173, j174, j175, j176, j177, j178, j179, j180, j181, j182, j183, j184, j185, j186, j187, j188, j189, j190, j191] σ'') :
    wpC RR Tryz.prog c21_31 [v0, j1, p2, .slice so sn sc sz, .int .i64 k, .int .i64 sn, .int .u8 (x / 12 : Nat), .int .u8 (x % 12 : Nat), j8, j9, j10, j11, j12, j13, j14, j15, j16, j17, j18, j19, j20, j21, j22, j23, j24, j25, j26, j27, j28, j29, j30, j31, j32, j33, j34, j35, j36, j37, j38, j39, j40, j41, j42, j43, j44, j45, j46, j47, j48, j49, j50, j51, j52, j53, j54, j55, j56, j57, j58, j59, j60, j61, j62, j63, j64, j65, j66, j67, j68, j69, j70, j71, j72, j73, j74, j75, j76, j77, j78, j79, j80, j81, j82, j83, j84, j85, j86, j87, j88, j89, j90, j91, j92, j93, j94, j95, j96, j97, j98, j99, j100, j101, j102, j103, j104, j105, j106, j107, j108, j109, j110, j111, j112, j113, j114, j115, j116, j117, j118, j119, j120, j121, j122, j123, j124, j125, j126, j127, j128, j129, j130, j131, j132, j133, j134, j135, j136, j137, j138, j139, j140, j141, j142, j143, j144, j145, j146, j147, j148, j149, j150, j151, j152, j153, j154, j155, j156, j157, j158, j159, j160, j161, j162, j163, j164, j165, j166, j167, j168, j169, j170, j171, j172, j173, j174, j175, j176, j177, j178, j179, j180, j181, j182, j183, j184, j185, j186, j187, j188, j189, j190, j191] σ' Q := by
  have hlen := hS.len
  have hcase : sc = none ∧ sz = 4 ∧ ∃ i, so = some (i, 0) ∧ σ'.get i = some (.cells cs true) := by
    rcases hS.grown.at' with ⟨_, q⟩ | ⟨q1, q2, i, q3, _, q4⟩
    · omega
    · exact ⟨q1, q2, i, q3, q4⟩
  obtain ⟨rfl, rfl, i, rfl, hgi⟩ := hcase
  have hil := hS.lt i rfl
  have hcl := hS.grown.len
  obtain ⟨f, hf⟩ : ∃ f, s[sn - 2]? = some f := ⟨s[sn - 2]'(by omega), List.getElem?_eq_getElem _⟩
  obtain ⟨f', hf'⟩ : ∃ f, s[sn - 1]? = some f := ⟨s[sn - 1]'(by omega), List.getElem?_eq_getElem _⟩
  have hdrop : s.drop (s.length - 2) = [f, f'] := by
    rw [hlen]
    refine List.ext_getElem? fun j => ?_
    rw [List.getElem?_drop]
    match j with
    | 0 => simpa using hf
    | 1 => rw [show sn - 2 + 1 = sn - 1 by omega]; simpa using hf'
    | j + 2 => rw [List.getElem?_eq_none (by omega)]; simp
  have hb : bStep s x = s.take (sn - 2) ++ [.mk (if x % 12 = 7 then 4 else if x % 12 = 8 then 5 else 6) [] [] [f, f']] := by
    unfold bStep; rw [if_neg (by omega), if_neg (by omega), if_neg (by omega), if_neg (by omega), if_neg (by omega), if_pos ⟨hr.1, hr.2.1, by omega⟩, hdrop, hlen]
  obtain ⟨_, i', xs, e', _, hl4, hxs, hd⟩ := hS.elem hf
  cases e'
  obtain ⟨_, i', xs', e', _, hl4', hxs', hd'⟩ := hS.elem hf'
  cases e'
  obtain ⟨fo, fn, fa, fl, ef⟩ := form_is f
  subst ef
  obtain ⟨fo', fn', fa', fl', ef'⟩ := form_is f'
  subst ef'
  have hd0 := hd
  have hd0' := hd'
  obtain ⟨o1, q1, z1, o2, q2, z2, rfl, _, _⟩ := F.cells hd
  obtain ⟨o1', q1', z1', o2', q2', z2', rfl, _, _⟩ := F.cells hd'
  have c1 : decide (((x % 12 : Nat) : Int) < 2) = false := decide_eq_false (by omega)
  have c2 : decide (((x % 12 : Nat) : Int) < 4) = false := decide_eq_false (by omega)
  have c3 : (((x % 12 : Nat) : Int) == 4) = false := by simp only [beq_eq_false_iff_ne]; omega
  have c4 : (((x % 12 : Nat) : Int) == 5) = false := by simp only [beq_eq_false_iff_ne]; omega
  have c5 : (((x % 12 : Nat) : Int) == 6) = false := by simp only [beq_eq_false_iff_ne]; omega
  have c6 : decide (((x % 12 : Nat) : Int) ≥ 7) = true := decide_eq_true (by omega)
  have c7 : decide (((x % 12 : Nat) : Int) < 10) = true := decide_eq_true (by omega)
  have c8 : decide ((sn : Int) ≥ 2) = true := decide_eq_true (by omega)
  have w1 : wrapF .i64 ((sn : Int) - 1) = ((sn - 1 : Nat) : Int) := by rw [wrap_i64 (by omega)]; omega
  have w2 : wrapF .i64 ((sn : Int) - 2) = ((sn - 2 : Nat) : Int) := by rw [wrap_i64 (by omega)]; omega
  have w7 : wrapF .u8 (((x % 12 : Nat) : Int) - 7) = ((x % 12 - 7 : Nat) : Int) := by rw [wrap_u8 (by omega)]; omega
  have l1 : sn - 2 ≤ sn := by omega
  have e3 : (0 : Int) ≤ ((x % 12 - 7 : Nat) : Int) ∧ ((x % 12 - 7 : Nat) : Int) < ((3 : Nat) : Int) := by omega
  have e4 : (0 : Int) ≤ ((sn - 1 : Nat) : Int) ∧ ((sn - 1 : Nat) : Int) < (sn : Int) := by omega
  have e5 : (0 : Int) ≤ ((sn - 2 : Nat) : Int) ∧ ((sn - 2 : Nat) : Int) < (sn : Int) := by omega
  have g3 : ([.int .u8 4, .int .u8 5, .int .u8 6] : List AV)[x % 12 - 7]? = some (.int .u8 ((if x % 12 = 7 then 4 else if x % 12 = 8 then 5 else 6 : Nat) : Int)) := by
    have : x % 12 = 7 ∨ x % 12 = 8 ∨ x % 12 = 9 := by omega
    rcases this with e | e | e <;> rw [e] <;> rfl
  generalize (if x % 12 = 7 then 4 else if x % 12 = 8 then 5 else 6 : Nat) = op at *
  simp -implicitDefEqProofs (maxDischargeDepth := 15) only [↓reduceIte, Yr, Ys, Yt, Yv, Yw, Yz, Wa, Wb, Wd, Wj, Wk, Wl, Wo, opA, Wv, Ww, Wx, Wy, Wz, Za, Zb, Zc, Zd, Ze, Vb, Vc, Vd, AV.cells, Vg, Vh, partA, Zf, Zg, Zh, Zi, Nat.reduceAdd, Nat.reduceLeDiff, Zj, Zk, Zl, Zm, Zn, Zo, Zp, Zs, binA, fillA, and_self, Zz, Yd, reduceCtorEq, Yf, natOf, upTo, bMax, bHigh, bLow, boundsA, evO, Yh, Yi, Vu, Vv, Yj, eq_self, Yl, or_true, Vx, c21_1, c21_2, c21_3, c21_4, c21_5, c21_6, c21_7, c21_8, c21_9, c21_10, c21_11, c21_12, c21_13, c21_14, c21_15, c21_16, c21_17, c21_18, c21_19, c21_20, c21_21, c21_22, c21_23, c21_24, c21_25, c21_26, c21_27, c21_28, c21_29, c21_30, c21_31, c1, c2, c3, c4, c5, c6, c7, c8, w1, w2, w7, l1, e3, e4, e5, g3, Nat.mul_one, Nat.sub_zero, hgi, hil, hl4, hxs, hl4', hxs']
  refine RunV.to (joinB_ok _ _ _ _ _ _) ?_
  have hS2 := (hS.push (.cells [.int .u8 4, .int .u8 5, .int .u8 6] true))
  have hW2 := hS2.grown.wf
  have hd3 : DAt (but e ((σ'.push (.cells [.int .u8 4, .int .u8 5, .int .u8 6] true)).push (.cells [.int .u8 fo, .str fn, .slice o1 fa.length q1 z1, .slice o2 fl.length q2 z2, .int .u8 fo', .str fn', .slice o1' fa'.length q1' z1', .slice o2' fl'.length q2' z2'] true)) (some (i, 0))) (.sl 4 2 (F.dvs [F.mk fo fn fa fl, F.mk fo' fn' fa' fl'])) (.slice (some ((σ'.push (.cells [.int .u8 4, .int .u8 5, .int .u8 6] true)).next, 0)) 2 (some 2) 4) := by
    refine dat_sl (cs := [.int .u8 fo, .str fn, .slice o1 fa.length q1 z1, .slice o2 fl.length q2 z2] ++ [.int .u8 fo', .str fn', .slice o1' fa'.length q1' z1', .slice o2' fl'.length q2' z2']) (w := true) (some 2) (but_mk (fun q => by have := hS2.lt _ q; omega) Vg (by have := hS2.el; omega)) rfl ?_
    show DAtL _ ((F.mk fo fn fa fl).dv ++ ((F.mk fo' fn' fa' fl').dv ++ [])) _
    rw [List.append_nil]
    exact DAtL.append_iff.2 ⟨_, _, rfl, DAtL.sub (but_sub ((sub_push hS.grown.wf _).trans (sub_push hW2 _))) _ _ hd0, DAtL.sub (but_sub ((sub_push hS.grown.wf _).trans (sub_push hW2 _))) _ _ hd0'⟩
  have hS3 := hS2.push (.cells [.int .u8 fo, .str fn, .slice o1 fa.length q1 z1, .slice o2 fl.length q2 z2, .int .u8 fo', .str fn', .slice o1' fa'.length q1' z1', .slice o2' fl'.length q2' z2'] true)
  have hW3 := hS3.grown.wf
  have hS5 := (hS3.push (.cells [.int .u8 op, .str [], nilA, .slice (some ((σ'.push (.cells [.int .u8 4, .int .u8 5, .int .u8 6] true)).next, 0)) 2 (some 2) 4] true)).push (.cells [.int .u8 op, .str [], nilA, .slice (some ((σ'.push (.cells [.int .u8 4, .int .u8 5, .int .u8 6] true)).next, 0)) 2 (some 2) 4] true)
  obtain ⟨he, hS6⟩ := hS5.appendTake (k := sn - 2) rfl (by omega) (f := .mk op [] [] [F.mk fo fn fa fl, F.mk fo' fn' fa' fl']) (xs := [.int .u8 op, .str [], nilA, .slice (some ((σ'.push (.cells [.int .u8 4, .int .u8 5, .int .u8 6] true)).next, 0)) 2 (some 2) 4])
    (fdat (dat_nil _ 3) (DAt.sub (but_sub ((sub_push hW3 _).trans (sub_push (hW3.push _) _))) _ _ hd3)) (by omega)
  simp -implicitDefEqProofs (maxDischargeDepth := 15) only [↓reduceIte, Yr, Ys, Yt, Wu, opA, Wv, Wx, Wy, Wz, Za, Zb, Zd, Ze, Vb, Vc, Vd, AV.cells, Vg, Zf, Zg, Zh, Zi, Nat.reduceAdd, Zj, Zk, Zm, Zn, Zo, Zp, Zs, Zt, fillA, and_self, lenA, firstA, eq_self, he]
  rw [← hb] at hS6
  exact hQ _ _ _ _ _ _ _ _ _ _ _ _ _ _ _ _ _ _ _ _ _ _ _ _ _ _ _ _ _ _ _ _ _ _ _ _ _ _ _ _ _ _ _ _ _ _ _ _ _ _ _ _ _ _ _ _ _ _ _ _ _ _ _ _ _ _ _ _ _ _ _ _ _ _ _ _ _ _ _ _ _ _ _ _ _ _ _ _ _ _ _ _ _ _ _ _ _ _ _ _ _ _ _ _ _ _ _ _ _ _ _ _ _ _ _ _ _ _ _ _ _ _ _ _ _ _ _ _ _ _ _ _ _ _ _ _ _ _ _ _ _ _ _ _ _ _ _ _ _ _ _ _ _ _ _ _ _ _ _ _ _ _ _ _ _ _ _ _ _ _ _ _ _ _ _ _ _ _ _ _ _ _ _ _ _ _ _ _ _ _ _ _ _ _ hS6 (by omega)
theorem bsw7 {e : Nat} {σ1 σ' : AState} {v0 p2 : AV} {k : Nat} {so : Option (Nat × Nat)} {sn : Nat} {sc : Option Nat} {sz : Nat} {s : List F} {cs : List AV} (hS : Stk e σ1 σ' so sn sc sz s cs) (hsn : sn ≤ 20) {x : Nat} (hx : x < 256) (hr : 10 ≤ x % 12 ∧ 1 ≤ sn) {j1 j8 j9 j10 j11 j12 j13 j14 j15 j16 j17 j18 j19 j20 j21 j22 j23 j24 j25 j26 j27 j28 j29 j30 j31 j32 j33 j34 j35 j36 j37 j38 j39 j40 j41 j42 j43 j44 j45 j46 j47 j48 j49 j50 j51 j52 j53 j54 j55 j56 j57 j58 j59 j60 j61 j62 j63 j64 j65 j66 j67 j68 j69 j70 j71 j72 j73 j74 j75 j76 j77 j78 j79 j80 j81 j82 j83 j84 j85 j86 j87 j88 j89 j90 j91 j92 j93 j94 j95 j96 j97 j98 j99 j100 j101 j102 j103 j104 j105 j106 j107 j108 j109 j110 j111 j112 j113 j114 j115 j116 j117 j118 j119 j120 j121 j122 j123 j124 j125 j126 j127 j128 j129 j130 j131 j132 j133 j134 j135 j136 j137 j138 j139 j140 j141 j142 j143 j144 j145 j146 j147 j148 j149 j150 j151 j152 j153 j154 j155 j156 j157 j158 j159 j160 j161 j162 j163 j164 j165 j166 j167 j168 j169 j170 j171 j172 j173 j174 j175 j176 j177 j178 j179 j180 j181 j182 j183 j184 j185 j186 j187 j188 j189 j190 j191 : AV} {Q : Ex → List AV → AState → Prop}
    (hQ : ∀ (σ'' : AState) (so' : Option (Nat × Nat)) (sn' : Nat) (sc' : Option Nat) (sz' : Nat) (cs' : List AV) (j1 j5 j6 j7 j8 j9 j10 j11 j12 j13 j14 j15 j16 j17 j18 j19 j20 j21 j22 j23 j24 j25 j26 j27 j28 j29 j30 j31 j32 j33 j34 j35 j36 j37 j38 j39 j40 j41 j42 j43 j44 j45 j46 j47 j48 j49 j50 j51 j52 j53 j54 j55 j56 j57 j58 j59 j60 j61 j62 j63 j64 j65 j66 j67 j68 j69 j70 j71 j72 j73 j74 j75 j76 j77 j78 j79 j80 j81 j82 j83 j84 j85 j86 j87 j88 j89 j90 j91 j92 j93 j94 j95 j96 j97 j98 j99 j100 j101 j102 j103 j104 j105 j106 j107 j108 j109 j110 j111 j112 j113 j114 j115 j116 j117 j118 j119 j120 j121 j122 j123 j124 j125 j126 j127 j128 j129 j130 j131 j132 j133 j134 j135 j136 j137 j138 j139 j140 j141 j142 j143 j144 j145 j146 j147 j148 j149 j150 j151 j152 j153 j154 j155 j156 j157 j158 j159 j160 j161 j162 j163 j164 j165 j166 j167 j168 j169 j170 j171 j172 j173 j174 j175 j176 j177 j178 j179 j180 j181 j182 j183 j184 j185 j186 j187 j188 j189 j190 j191 : AV), Stk e σ1 σ'' so' sn' sc' sz' (bStep s x) cs' → sn' ≤ sn + 1 → Q .normal [v0, j1, p2, .slice so' sn' sc' sz', .int .i64 k, j5, j6, j7, j8, j9, j10, j11, j12, j13, j14, j15, j16, j17, j18, j19, j20, j21, j22, j23, j24, j25, j26, j27, j28, j29, j30, j31, j32, j33, j34, j35, j36, j37, j38, j39, j40, j41, j42, j43, j44, j45, j46, j47, j48, j49, j50, j51, j52, j53, j54, j55, j56, j57, j58, j59, j60, j61, j62, j63, j64, j65, j66, j67, j68, j69, j70, j71, j72, j73, j74, j75, j76, j77, j78, j79, j80, j81, j82, j83, j84, j85, j86, j87, j88, j89, j90, j91, j92, j93, j94, j95, j96, j97, j98, j99, j100, j101, j102, j103, j104, j105, j106, j107, j108, j109, j110, j111, j112, j113, j114, j115, j116, j117, j118, j119, j120, j121, j122, j123, j124, j125, j126, j127, j128, j129, j130, j131, j132, j133, j134, j135, j136, j137, j138, j139, j140, j141, j142, j143, j144, j145, j146, j147, j148, j149, j150, j151, j152, j153, j154, j155, j156, j157, j158, j159, j160, j161, j162, j163, j164, j165, j166, j167, j168, j169, j170, j171, j172, j173, j174, j175, j176, j177, j178, j179, j180, j181, j182, j183, j184, j185, j186, j187, j188, j189, j190, j191] σ'') :
    wpC RR Tryz.prog c21_31 [v0, j1, p2, .slice so sn sc sz, .int .i64 k, .int .i64 sn, .int .u8 (x / 12 : Nat), .int .u8 (x % 12 : Nat), j8, j9, j10, j11, j12, j13, j14, j15, j16, j17, j18, j19, j20, j21, j22, j23, j24, j25, j26, j27, j28, j29, j30, j31, j32, j33, j34, j35, j36, j37, j38, j39, j40, j41, j42, j43, j44, j45, j46, j47, j48, j49, j50, j51, j52, j53, j54, j55, j56, j57, j58, j59, j60, j61, j62, j63, j64, j65, j66, j67, j68, j69, j70, j71, j72, j73, j74, j75, j76, j77, j78, j79, j80, j81, j82, j83, j84, j85, j86, j87, j88, j89, j90, j91, j92, j93, j94, j95, j96, j97, j98, j99, j100, j101, j102, j103, j104, j105, j106, j107, j108, j109, j110, j111, j112, j113, j114, j115, j116, j117, j118, j119, j120, j121, j122, j123, j124, j125, j126, j127, j128, j129, j130, j131, j132, j133, j134, j135, j136, j137, j138, j139, j140, j141, j142, j143, j144, j145, j146, j147, j148, j149, j150, j151, j152, j153, j154, j155, j156, j157, j158, j159, j160, j161, j162, j163, j164, j165, j166, j167, j168, j169, j170, j171, j172, j173, j174, j175, j176, j177, j178, j179, j180, j181, j182, j183, j184, j185, j186, j187, j188, j189, j190, j191] σ' Q := by
  have hlen := hS.len
  have hcase : sc = none ∧ sz = 4 ∧ ∃ i, so = some (i, 0) ∧ σ'.get i = some (.cells cs true) := by
    rcases hS.grown.at' with ⟨_, q⟩ | ⟨q1, q2, i, q3, _, q4⟩
    · omega
    · exact ⟨q1, q2, i, q3, q4⟩
  obtain ⟨rfl, rfl, i, rfl, hgi⟩ := hcase
  have hil := hS.lt i rfl
  have hcl := hS.grown.len
  obtain ⟨f, hf⟩ : ∃ f, s[sn - 1]? = some f := ⟨s[sn - 1]'(by omega), List.getElem?_eq_getElem _⟩
  have hdrop : s.drop (s.length - 1) = [f] := by
    rw [hlen]
    refine List.ext_getElem? fun j => ?_
    rw [List.getElem?_drop]
    cases j with
    | zero => simpa using hf
    | succ j => rw [List.getElem?_eq_none (by omega)]; simp
  have hb : bStep s x = s.take (sn - 1) ++ [.mk (8 + x % 12 - 10) [if x / 12 % 3 = 0 then 120 else if x / 12 % 3 = 1 then 121 else 122] [] [f]] := by
    unfold bStep; rw [if_neg (by omega), if_neg (by omega), if_neg (by omega), if_neg (by omega), if_neg (by omega), if_neg (by omega), if_pos ⟨hr.1, by omega⟩, hdrop, hlen]
  obtain ⟨_, i', xs, e', _, hl4, hxs, hd⟩ := hS.elem hf
  cases e'
  obtain ⟨fo, fn, fa, fl, ef⟩ := form_is f
  subst ef
  have hd0 := hd
  obtain ⟨o1, q1, z1, o2, q2, z2, rfl, _, _⟩ := F.cells hd
  have c1 : decide (((x % 12 : Nat) : Int) < 2) = false := decide_eq_false (by omega)
  have c2 : decide (((x % 12 : Nat) : Int) < 4) = false := decide_eq_false (by omega)
  have c3 : (((x % 12 : Nat) : Int) == 4) = false := by simp only [beq_eq_false_iff_ne]; omega
  have c4 : (((x % 12 : Nat) : Int) == 5) = false := by simp only [beq_eq_false_iff_ne]; omega
  have c5 : (((x % 12 : Nat) : Int) == 6) = false := by simp only [beq_eq_false_iff_ne]; omega
  have c6 : decide (((x % 12 : Nat) : Int) ≥ 7) = true := decide_eq_true (by omega)
  have c7 : decide (((x % 12 : Nat) : Int) < 10) = false := decide_eq_false (by omega)
  have c8 : decide (((x % 12 : Nat) : Int) ≥ 10) = true := decide_eq_true (by omega)
  have c9 : decide ((sn : Int) ≥ 1) = true := decide_eq_true (by omega)
  have w1 : wrapF .i64 ((sn : Int) - 1) = ((sn - 1 : Nat) : Int) := by rw [wrap_i64 (by omega)]; omega
  have w8 : wrapF .u8 (8 + ((x % 12 : Nat) : Int)) = ((8 + x % 12 : Nat) : Int) := by rw [wrap_u8 (by omega)]; omega
  have w9 : wrapF .u8 (((8 + x % 12 : Nat) : Int) - 10) = ((8 + x % 12 - 10 : Nat) : Int) := by rw [wrap_u8 (by omega)]; omega
  have l1 : sn - 1 ≤ sn := by omega
  have m3 : ((x / 12 : Nat) : Int).tmod 3 = ((x / 12 % 3 : Nat) : Int) := tmodN _ 3
  have z3 : ((3 : Int) = 0) = False := by simp
  have e3 : (0 : Int) ≤ ((x / 12 % 3 : Nat) : Int) ∧ ((x / 12 % 3 : Nat) : Int) < ((3 : Nat) : Int) := by omega
  have e4 : (0 : Int) ≤ ((sn - 1 : Nat) : Int) ∧ ((sn - 1 : Nat) : Int) < (sn : Int) := by omega
  have g3 : ([.str [120], .str [121], .str [122]] : List AV)[x / 12 % 3]? = some (.str [if x / 12 % 3 = 0 then 120 else if x / 12 % 3 = 1 then 121 else 122]) := by
    have : x / 12 % 3 = 0 ∨ x / 12 % 3 = 1 ∨ x / 12 % 3 = 2 := by omega
    rcases this with e | e | e <;> rw [e] <;> rfl
  generalize ([if x / 12 % 3 = 0 then 120 else if x / 12 % 3 = 1 then 121 else 122] : Str) = nm at *
  generalize 8 + x % 12 - 10 = op at *
  simp -implicitDefEqProofs (maxDischargeDepth := 15) only [↓reduceIte, Yr, Ys, Yt, Yv, Yw, Yz, Wa, Wb, Wd, Wj, Wk, Wl, Wo, opA, Wv, Ww, Wx, Wy, Wz, Za, Zb, Zc, Zd, Ze, Vb, Vc, Vd, AV.cells, Vg, Vh, partA, Zf, Zg, Zh, Zi, Nat.reduceAdd, Nat.reduceLeDiff, Zj, Zk, Zl, Zm, Zn, Zo, Zp, Zs, binA, fillA, and_self, Zz, Yd, reduceCtorEq, Yf, natOf, upTo, bMax, bHigh, bLow, boundsA, evO, Yh, Yi, Vu, Vv, Yj, eq_self, Yl, or_true, Vx, c21_1, c21_2, c21_3, c21_4, c21_5, c21_6, c21_7, c21_8, c21_9, c21_10, c21_11, c21_12, c21_13, c21_14, c21_15, c21_16, c21_17, c21_18, c21_19, c21_20, c21_21, c21_22, c21_23, c21_24, c21_25, c21_26, c21_27, c21_28, c21_29, c21_30, c21_31, c1, c2, c3, c4, c5, c6, c7, c8, c9, w1, w8, w9, l1, m3, z3, e3, e4, g3, Nat.mul_one, Nat.sub_zero, hgi, hil, hl4, hxs]
  refine (bound_ok _ _ _ _ _ _ _ _ _ _ _ _ _).mono ?_
  rintro u σ2 ⟨ib, rfl, hib, hgb, hG⟩
  have hS1 := hS.push (.cells [.str [120], .str [121], .str [122]] true)
  have hS2 := hS1.grow hG
  have hW2 := hS2.grown.wf
  have hd3 : DAt (but e σ2 (some (i, 0))) (.sl 4 1 (F.dvs [F.mk fo fn fa fl])) (.slice (some (ib, 0)) 1 (some 1) 4) := by
    refine dat_sl (cs := [.int .u8 fo, .str fn, .slice o1 fa.length q1 z1, .slice o2 fl.length q2 z2]) (w := true) (some 1) (but_mk (fun q => by have := hS1.lt _ q; omega) hgb (by have := hS1.el; omega)) rfl ?_
    rw [dvs_one]
    exact DAtL.sub (but_sub ((sub_push hS.grown.wf _).trans hG.sub)) _ _ hd0
  obtain ⟨he, hS6⟩ := (hS2.push (.cells [.int .u8 op, .str nm, nilA, .slice (some (ib, 0)) 1 (some 1) 4] true)).appendTake (k := sn - 1) rfl (by omega) (f := .mk op nm [] [F.mk fo fn fa fl]) (xs := [.int .u8 op, .str nm, nilA, .slice (some (ib, 0)) 1 (some 1) 4])
    (fdat (dat_nil _ 3) (DAt.sub (but_sub (sub_push hW2 _)) _ _ hd3)) (by omega)
  simp -implicitDefEqProofs (maxDischargeDepth := 15) only [↓reduceIte, Yr, Ys, Yt, Wu, opA, Wv, Wx, Wy, Wz, Za, Zb, Zd, Ze, Vb, Vc, Vd, AV.cells, Vg, Zf, Zg, Zh, Zi, Nat.reduceAdd, Zj, Zk, Zm, Zn, Zo, Zp, Zs, Zt, fillA, and_self, lenA, firstA, eq_self, he]
  rw [← hb] at hS6
  exact hQ _ _ _ _ _ _ _ _ _ _ _ _ _ _ _ _ _ _ _ _ _ _ _ _ _ _ _ _ _ _ _ _ _ _ _ _ _ _ _ _ _ _ _ _ _ _ _ _ _ _ _ _ _ _ _ _ _ _ _ _ _ _ _ _ _ _ _ _ _ _ _ _ _ _ _ _ _ _ _ _ _ _ _ _ _ _ _ _ _ _ _ _ _ _ _ _ _ _ _ _ _ _ _ _ _ _ _ _ _ _ _ _ _ _ _ _ _ _ _ _ _ _ _ _ _ _ _ _ _ _ _ _ _ _ _ _ _ _ _ _ _ _ _ _ _ _ _ _ _ _ _ _ _ _ _ _ _ _ _ _ _ _ _ _ _ _ _ _ _ _ _ _ _ _ _ _ _ _ _ _ _ _ _ _ _ _ _ _ _ _ _ _ _ _ hS6 (by omega)
theorem bsw8 {e : Nat} {σ1 σ' : AState} {v0 p2 : AV} {k : Nat} {so : Option (Nat × Nat)} {sn : Nat} {sc : Option Nat} {sz : Nat} {s : List F} {cs : List AV} (hS : Stk e σ1 σ' so sn sc sz s cs) (hsn : sn ≤ 20) {x : Nat} (hx : x < 256) (hr : (x % 12 = 6 ∧ sn = 0) ∨ (7 ≤ x % 12 ∧ x % 12 < 10 ∧ sn < 2) ∨ (10 ≤ x % 12 ∧ sn = 0)) {j1 j8 j9 j10 j11 j12 j13 j14 j15 j16 j17 j18 j19 j20 j21 j22 j23 j24 j25 j26 j27 j28 j29 j30 j31 j32 j33 j34 j35 j36 j37 j38 j39 j40 j41 j42 j43 j44 j45 j46 j47 j48 j49 j50 j51 j52 j53 j54 j55 j56 j57 j58 j59 j60 j61 j62 j63 j64 j65 j66 j67 j68 j69 j70 j71 j72 j73 j74 j75 j76 j77 j78 j79 j80 j81 j82 j83 j84 j85 j86 j87 j88 j89 j90 j91 j92 j93 j94 j95 j96 j97 j98 j99 j100 j101 j102 j103 j104 j105 j106 j107 j108 j109 j110 j111 j112 j113 j114 j115 j116 j117 j118 j119 j120 j121 j122 j123 j124 j125 j126 j127 j128 j129 j130 j131 j132 j133 j134 j135 j136 j137 j138 j139 j140 j141 j142 j143 j144 j145 j146 j147 j148 j149 j150 j151 j152 j153 j154 j155 j156 j157 j158 j159 j160 j161 j162 j163 j164 j165 j166 j167 j168 j169 j170 j171 j172 j173 j174 j175 j176 j177 j178 j179 j180 j181 j182 j183 j184 j185 j186 j187 j188 j189 j190 j191 : AV} {Q : Ex → List AV → AState → Prop}
    (hQ : ∀ (σ'' : AState) (so' : Option (Nat × Nat)) (sn' : Nat) (sc' : Option Nat) (sz' : Nat) (cs' : List AV) (j1 j5 j6 j7 j8 j9 j10 j11 j12 j13 j14 j15 j16 j17 j18 j19 j20 j21 j22 j23 j24 j25 j26 j27 j28 j29 j30 j31 j32 j33 j34 j35 j36 j37 j38 j39 j40 j41 j42 j43 j44 j45 j46 j47 j48 j49 j50 j51 j52 j53 j54 j55 j56 j57 j58 j59 j60 j61 j62 j63 j64 j65 j66 j67 j68 j69 j70 j71 j72 j73 j74 j75 j76 j77 j78 j79 j80 j81 j82 j83 j84 j85 j86 j87 j88 j89 j90 j91 j92 j93 j94 j95 j96 j97 j98 j99 j100 j101 j102 j103 j104 j105 j106 j107 j108 j109 j110 j111 j112 j113 j114 j115 j116 j117 j118 j119 j120 j121 j122 j123 j124 j125 j126 j127 j128 j129 j130 j131 j132 j133 j134 j135 j136 j137 j138 j139 j140 j141 j142 j143 j144 j145 j146 j147 j148 j149 j150 j151 j152 j153 j154 j155 j156 j157 j158 j159 j160 j161 j162 j163 j164 j165 j166 j167 j168 j169 j170 j171 j172 j173 j174 j175 j176 j177 j178 j179 j180 j181 j182 j183 j184 j185 j186 j187 j188 j189 j190 j191 : AV), Stk e σ1 σ'' so' sn' sc' sz' (bStep s x) cs' → sn' ≤ sn + 1 → Q .normal [v0, j1, p2, .slice so' sn' sc' sz', .int .i64 k, j5, j6, j7, j8, j9, j10, j11, j12, j13, j14, j15, j16, j17, j18, j19, j20, j21, j22, j23, j24, j25, j26, j27, j28, j29, j30, j31, j32, j33, j34, j35, j36, j37, j38, j39, j40, j41, j42, j43, j44, j45, j46, j47, j48, j49, j50, j51, j52, j53, j54, j55, j56, j57, j58, j59, j60, j61, j62, j63, j64, j65, j66, j67, j68, j69, j70, j71, j72, j73, j74, j75, j76, j77, j78, j79, j80, j81, j82, j83, j84, j85, j86, j87, j88, j89, j90, j91, j92, j93, j94, j95, j96, j97, j98, j99, j100, j101, j102, j103, j104, j105, j106, j107, j108, j109, j110, j111, j112, j113, j114, j115, j116, j117, j118, j119, j120, j121, j122, j123, j124, j125, j126, j127, j128, j129, j130, j131, j132, j133, j134, j135, j136, j137, j138, j139, j140, j141, j142, j143, j144, j145, j146, j147, j148, j149, j150, j151, j152, j153, j154, j155, j156, j157, j158, j159, j160, j161, j162, j163, j164, j165, j166, j167, j168, j169, j170, j171, j172, j173, j174, j175, j176, j177, j178, j179, j180, j181, j182, j183, j184, j185, j186, j187, j188, j189, j190, j191] σ'') :
    wpC RR Tryz.prog c21_31 [v0, j1, p2, .slice so sn sc sz, .int .i64 k, .int .i64 sn, .int .u8 (x / 12 : Nat), .int .u8 (x % 12 : Nat), j8, j9, j10, j11, j12, j13, j14, j15, j16, j17, j18, j19, j20, j21, j22, j23, j24, j25, j26, j27, j28, j29, j30, j31, j32, j33, j34, j35, j36, j37, j38, j39, j40, j41, j42, j43, j44, j45, j46, j47, j48, j49, j50, j51, j52, j53, j54, j55, j56, j57, j58, j59, j60, j61, j62, j63, j64, j65, j66, j67, j68, j69, j70, j71, j72, j73, j74, j75, j76, j77, j78, j79, j80, j81, j82, j83, j84, j85, j86, j87, j88, j89, j90, j91, j92, j93, j94, j95, j96, j97, j98, j99, j100, j101, j102, j103, j104, j105, j106, j107, j108, j109, j110, j111, j112, j113, j114, j115, j116, j117, j118, j119, j120, j121, j122, j123, j124, j125, j126, j127, j128, j129, j130, j131, j132, j133, j134, j135, j136, j137, j138, j139, j140, j141, j142, j143, j144, j145, j146, j147, j148, j149, j150, j151, j152, j153, j154, j155, j156, j157, j158, j159, j160, j161, j162, j163, j164, j165, j166, j167, j168, j169, j170, j171, j172, j173, j174, j175, j176, j177, j178, j179, j180, j181, j182, j183, j184, j185, j186, j187, j188, j189, j190, j191] σ' Q := by
  have hlen := hS.len
  have hb : bStep s x = s := by
    unfold bStep; rw [if_neg (by omega), if_neg (by omega), if_neg (by omega), if_neg (by omega), if_neg (by omega), if_neg (by omega), if_neg (by omega)]
  have c1 : decide (((x % 12 : Nat) : Int) < 2) = false := decide_eq_false (by omega)
  have c2 : decide (((x % 12 : Nat) : Int) < 4) = false := decide_eq_false (by omega)
  have c3 : (((x % 12 : Nat) : Int) == 4) = false := by simp only [beq_eq_false_iff_ne]; omega
  have c4 : (((x % 12 : Nat) : Int) == 5) = false := by simp only [beq_eq_false_iff_ne]; omega
  rw [← hb] at hS
  rcases hr with ⟨hr, hn⟩ | ⟨hr, hr2, hn⟩ | ⟨hr, hn⟩
  · have c5 : (((x % 12 : Nat) : Int) == 6) = true := by simp only [beq_iff_eq]; omega
    have c6 : decide ((sn : Int) ≥ 1) = false := decide_eq_false (by omega)
    have c7 : decide (((x % 12 : Nat) : Int) ≥ 7) = false := decide_eq_false (by omega)
    have c8 : decide (((x % 12 : Nat) : Int) ≥ 10) = false := decide_eq_false (by omega)
    simp -implicitDefEqProofs (maxDischargeDepth := 15) only [↓reduceIte, Yr, Ys, Yt, Yv, Yw, Wa, Wd, Wg, Wj, Wk, Wl, Wo, opA, Wv, Ww, Wx, Wy, Wz, Za, Zb, Vb, binA, Yd, Vu, Vv, Yj, eq_self, Vx, c21_1, c21_2, c21_3, c21_4, c21_5, c21_6, c21_7, c21_8, c21_9, c21_10, c21_11, c21_12, c21_13, c21_14, c21_15, c21_16, c21_17, c21_18, c21_19, c21_20, c21_21, c21_22, c21_23, c21_24, c21_25, c21_26, c21_27, c21_28, c21_29, c21_30, c21_31, c1, c2, c3, c4, c5, c6, c7, c8]
    exact hQ _ _ _ _ _ _ _ _ _ _ _ _ _ _ _ _ _ _ _ _ _ _ _ _ _ _ _ _ _ _ _ _ _ _ _ _ _ _ _ _ _ _ _ _ _ _ _ _ _ _ _ _ _ _ _ _ _ _ _ _ _ _ _ _ _ _ _ _ _ _ _ _ _ _ _ _ _ _ _ _ _ _ _ _ _ _ _ _ _ _ _ _ _ _ _ _ _ _ _ _ _ _ _ _ _ _ _ _ _ _ _ _ _ _ _ _ _ _ _ _ _ _ _ _ _ _ _ _ _ _ _ _ _ _ _ _ _ _ _ _ _ _ _ _ _ _ _ _ _ _ _ _ _ _ _ _ _ _ _ _ _ _ _ _ _ _ _ _ _ _ _ _ _ _ _ _ _ _ _ _ _ _ _ _ _ _ _ _ _ _ _ _ _ _ hS (by omega)
  · have c5 : (((x % 12 : Nat) : Int) == 6) = false := by simp only [beq_eq_false_iff_ne]; omega
    have c6 : decide ((sn : Int) ≥ 2) = false := decide_eq_false (by omega)
    have c7 : decide (((x % 12 : Nat) : Int) ≥ 7) = true := decide_eq_true (by omega)
    have c8 : decide (((x % 12 : Nat) : Int) < 10) = true := decide_eq_true (by omega)
    have c9 : decide (((x % 12 : Nat) : Int) ≥ 10) = false := decide_eq_false (by omega)
    simp -implicitDefEqProofs (maxDischargeDepth := 15) only [↓reduceIte, Yr, Ys, Yt, Yv, Yw, Wa, Wd, Wg, Wj, Wk, Wl, Wo, opA, Wv, Ww, Wx, Wy, Wz, Za, Zb, Vb, binA, Yd, Vu, Vv, Yj, eq_self, Vx, c21_1, c21_2, c21_3, c21_4, c21_5, c21_6, c21_7, c21_8, c21_9, c21_10, c21_11, c21_12, c21_13, c21_14, c21_15, c21_16, c21_17, c21_18, c21_19, c21_20, c21_21, c21_22, c21_23, c21_24, c21_25, c21_26, c21_27, c21_28, c21_29, c21_30, c21_31, c1, c2, c3, c4, c5, c6, c7, c8, c9]
    exact hQ _ _ _ _ _ _ _ _ _ _ _ _ _ _ _ _ _ _ _ _ _ _ _ _ _ _ _ _ _ _ _ _ _ _ _ _ _ _ _ _ _ _ _ _ _ _ _ _ _ _ _ _ _ _ _ _ _ _ _ _ _ _ _ _ _ _ _ _ _ _ _ _ _ _ _ _ _ _ _ _ _ _ _ _ _ _ _ _ _ _ _ _ _ _ _ _ _ _ _ _ _ _ _ _ _ _ _ _ _ _ _ _ _ _ _ _ _ _ _ _ _ _ _ _ _ _ _ _ _ _ _ _ _ _ _ _ _ _ _ _ _ _ _ _ _ _ _ _ _ _ _ _ _ _ _ _ _ _ _ _ _ _ _ _ _ _ _ _ _ _ _ _ _ _ _ _ _ _ _ _ _ _ _ _ _ _ _ _ _ _ _ _ _ _ hS (by omega)
  · have c5 : (((x % 12 : Nat) : Int) == 6) = false := by simp only [beq_eq_false_iff_ne]; omega
    have c6 : decide ((sn : Int) ≥ 1) = false := decide_eq_false (by omega)
    have c7 : decide (((x % 12 : Nat) : Int) ≥ 7) = true := decide_eq_true (by omega)
    have c8 : decide (((x % 12 : Nat) : Int) < 10) = false := decide_eq_false (by omega)
    have c9 : decide (((x % 12 : Nat) : Int) ≥ 10) = true := decide_eq_true (by omega)
    simp -implicitDefEqProofs (maxDischargeDepth := 15) only [↓reduceIte, Yr, Ys, Yt, Yv, Yw, Wa, Wd, Wg, Wj, Wk, Wl, Wo, opA, Wv, Ww, Wx, Wy, Wz, Za, Zb, Vb, binA, Yd, Vu, Vv, Yj, eq_self, Vx, c21_1, c21_2, c21_3, c21_4, c21_5, c21_6, c21_7, c21_8, c21_9, c21_10, c21_11, c21_12, c21_13, c21_14, c21_15, c21_16, c21_17, c21_18, c21_19, c21_20, c21_21, c21_22, c21_23, c21_24, c21_25, c21_26, c21_27, c21_28, c21_29, c21_30, c21_31, c1, c2, c3, c4, c5, c6, c7, c8, c9]
    exact hQ _ _ _ _ _ _ _ _ _ _ _ _ _ _ _ _ _ _ _ _ _ _ _ _ _ _ _ _ _ _ _ _ _ _ _ _ _ _ _ _ _ _ _ _ _ _ _ _ _ _ _ _ _ _ _ _ _ _ _ _ _ _ _ _ _ _ _ _ _ _ _ _ _ _ _ _ _ _ _ _ _ _ _ _ _ _ _ _ _ _ _ _ _ _ _ _ _ _ _ _ _ _ _ _ _ _ _ _ _ _ _ _ _ _ _ _ _ _ _ _ _ _ _ _ _ _ _ _ _ _ _ _ _ _ _ _ _ _ _ _ _ _ _ _ _ _ _ _ _ _ _ _ _ _ _ _ _ _ _ _ _ _ _ _ _ _ _ _ _ _ _ _ _ _ _ _ _ _ _ _ _ _ _ _ _ _ _ _ _ _ _ _ _ _ hS (by omega)
end Go.Am
