/-
  THE LAW: for all two slices of bytes and any number that come in, the statement returns true, and the slices read behind the call as they read before. No condition.
-/
import Derived.WalkKit
import Derived.ProofKit
import Derived.OpenShut
import Derived.Deep.DeepHandedRow
import Derived.Deep.DeepWitnessRowRef
import Derived.Lib.LaidIn
import Derived.Lib.LaidU8
import Derived.Lib.LaidTab
import Derived.LaidSub
import Derived.Test.YtndfemigjgpdlaaGreatDoorCards
import Derived.Test.YtndfemigjgpdlaaGreatDoorTie
import Derived.Test.YtndfemigjgpdlaaGreatDoorT10
import Derived.Test.YtndfemigjgpdlaaGreatDoorT05
set_option linter.unusedSimpArgs false
set_option linter.unusedVariables false
namespace Go.Proofs.YtndfemigjgpdlaaGreatDoor.describeApart
open Go.ChangeShapes Go.WideShapes Go.ChangeAt Go.RowKit Go.Am
theorem own : ownKnob Tryz.prog.godebug = none := by kernel_rfl
theorem outer : laidOutB Tryz.prog = true := by kernel_rfl
theorem oneCell : Tryz.prog.cellsOf 5 = 1 := by kernel_rfl
noncomputable def laidWorld (os : Os) : World :=
  let N := (World.settled Tryz.prog os).heap.size
  let w0 := World.holding Tryz.prog os ⟨#[], #[], []⟩
  let put (h : Array Obj) (g : Nat) (cs : Array Value) : Array Obj := h.modify g fun
    | .cells _ t frozen => .cells cs t frozen
    | o => o
  let h0 := w0.heap
  let h1 := put h0 4 #[.int .u8 0, .int .u8 1, .int .u8 28, .int .u8 2, .int .u8 29, .int .u8 14, .int .u8 24, .int .u8 3, .int .u8 30, .int .u8 22, .int .u8 20, .int .u8 15, .int .u8 25, .int .u8 17, .int .u8 4, .int .u8 8, .int .u8 31, .int .u8 27, .int .u8 13, .int .u8 23, .int .u8 21, .int .u8 19, .int .u8 16, .int .u8 7, .int .u8 26, .int .u8 12, .int .u8 18, .int .u8 6, .int .u8 11, .int .u8 5, .int .u8 10, .int .u8 9]
  let h2 := put h1 5 #[.int .u8 0, .int .u8 1, .int .u8 56, .int .u8 2, .int .u8 57, .int .u8 49, .int .u8 28, .int .u8 3, .int .u8 61, .int .u8 58, .int .u8 42, .int .u8 50, .int .u8 38, .int .u8 29, .int .u8 17, .int .u8 4, .int .u8 62, .int .u8 47, .int .u8 59, .int .u8 36, .int .u8 45, .int .u8 43, .int .u8 51, .int .u8 22, .int .u8 53, .int .u8 39, .int .u8 33, .int .u8 30, .int .u8 24, .int .u8 18, .int .u8 12, .int .u8 5, .int .u8 63, .int .u8 55, .int .u8 48, .int .u8 27, .int .u8 60, .int .u8 41, .int .u8 37, .int .u8 16, .int .u8 46, .int .u8 35, .int .u8 44, .int .u8 21, .int .u8 52, .int .u8 32, .int .u8 23, .int .u8 11, .int .u8 54, .int .u8 26, .int .u8 40, .int .u8 15, .int .u8 34, .int .u8 20, .int .u8 31, .int .u8 10, .int .u8 25, .int .u8 14, .int .u8 19, .int .u8 9, .int .u8 13, .int .u8 8, .int .u8 7, .int .u8 6]
  let h3 := put h2 1 #[.int .u64 1, .int .u64 10, .int .u64 100, .int .u64 1000, .int .u64 10000, .int .u64 100000, .int .u64 1000000, .int .u64 10000000, .int .u64 100000000, .int .u64 1000000000, .int .u64 10000000000, .int .u64 100000000000, .int .u64 1000000000000, .int .u64 10000000000000, .int .u64 100000000000000, .int .u64 1000000000000000, .int .u64 10000000000000000, .int .u64 100000000000000000, .int .u64 1000000000000000000, .int .u64 10000000000000000000]
  let h4 := put h3 3 #[.int .u8 128, .int .u8 191, .int .u8 160, .int .u8 191, .int .u8 128, .int .u8 159, .int .u8 144, .int .u8 191, .int .u8 128, .int .u8 143, .int .u8 0, .int .u8 0, .int .u8 0, .int .u8 0, .int .u8 0, .int .u8 0, .int .u8 0, .int .u8 0, .int .u8 0, .int .u8 0, .int .u8 0, .int .u8 0, .int .u8 0, .int .u8 0, .int .u8 0, .int .u8 0, .int .u8 0, .int .u8 0, .int .u8 0, .int .u8 0, .int .u8 0, .int .u8 0]
  let h5 := put h4 2 (Lib.firstTab.map fun z => Value.int .u8 z).toArray
  { w0 with heap := h5 }
noncomputable abbrev N0 : Nat := (World.settled Tryz.prog default).heap.size
theorem laid_met (os : Os) (args : Array Value) : laidMet Tryz.prog Rows.describeApartRow.laid ((laidWorld os).forCall (fun _ _ => 0) ⟨#[], args, []⟩).memory :=
  (LaidIn.of_run (l := Rows.describeApartRow.laid) [4, 5, 1, 3, 2] 8 (by kernel_rfl) (by kernel_rfl) (by kernel_rfl) (by kernel_rfl)).met
theorem reads (os : Os) {H : Type} (enc : TypeId × Value → H) : (DataW.whole enc Tryz.prog ((laidWorld os).forCall (fun _ _ => 0) ⟨#[], #[.slice none 0 0, .slice none 0 0, .int .u8 0], []⟩).memory Tryz.f3.params.toList Rows.describeApartSpec.vars false #[Value.slice none 0 0, Value.slice none 0 0, Value.int .u8 0].toList 8).map (fun x => (x.1, x.2.1)) = some ([.nil, .nil, .lit (.int .u8 0)], []) := by kernel_rfl
theorem witness_row (os : Os) {H : Type} (enc : TypeId × Value → H) :
    (OpenSpec.ofChange Rows.describeApartSpec).preRow enc Tryz.prog Tryz.f3 Rows.describeApartRow.domain false Rows.describeApartRow.laid ((laidWorld os).forCall (fun _ _ => 0) ⟨#[], #[.slice none 0 0, .slice none 0 0, .int .u8 0], []⟩).memory #[.slice none 0 0, .slice none 0 0, .int .u8 0] := by
  obtain ⟨⟨x1, x2, x3⟩, hx, hx1⟩ := Option.map_eq_some_iff.1 (reads os enc)
  simp only [Prod.mk.injEq] at hx1
  obtain ⟨rfl, rfl⟩ := hx1
  exact OpenSpec.preRow_of_cond 8 hx (by kernel_rfl) (fun k hk => by cases hk) (by kernel_rfl) (laid_met os _)
def powZ : List Int := [1, 10, 100, 1000, 10000, 100000, 1000000, 10000000, 100000000, 1000000000, 10000000000, 100000000000, 1000000000000, 10000000000000, 100000000000000, 1000000000000000, 10000000000000000, 100000000000000000, 1000000000000000000, 10000000000000000000]
theorem pow_tab {W : World} (h : laidMetH Tryz.prog Rows.describeApartRow.laid W) : Lib.TabIs Tryz.prog W "internal/strconv.uint64pow10" .u64 powZ := by
  have h1 := laidMetH.filter (fun x => x.1 == "internal/strconv.uint64pow10") h
  rw [show (Rows.describeApartRow.laid.filter fun x => x.1 == "internal/strconv.uint64pow10") = [("internal/strconv.uint64pow10", Lib.tabData .u64 powZ)] by kernel_rfl] at h1
  have h2 := (laidMetH_iff.1 h1).1
  exact Lib.tabIs_of_head (rest := []) (g := 1) (t := 207) (e := 186) (n := 20) (by kernel_rfl) (by kernel_rfl) (by kernel_rfl) (by kernel_rfl) (by kernel_rfl) (by kernel_rfl) h2
theorem bys_of {g : Mem} {o : Option (Nat × Nat)} {len B : Nat} {zs : List Int} (ho : o = none ∧ len = 0 ∨ o = some (B, 0)) (hg : g B = some (.cells (zs.map (AV.int .u8)) false)) (hl : len ≤ zs.length) (hz : ∀ z ∈ zs, IntKind.u8.min ≤ z ∧ z ≤ IntKind.u8.max) :
    Bys g o len 1 ((zs.take len).map Int.toNat) := by
  rcases ho with ⟨rfl, rfl⟩ | rfl
  · exact .inl ⟨rfl, rfl, by simp⟩
  · refine .inr ⟨by simp; omega, rfl, _, 0, zs.map (AV.int .u8), false, rfl, hg, by simp; omega, ?_⟩
    rw [List.drop_zero, ← List.map_take, List.map_map]
    refine List.map_congr_left fun z hz' => ?_
    have := hz z (List.mem_of_mem_take hz')
    have e1 : IntKind.u8.min = 0 := rfl
    simp only [Function.comp_apply, AV.int.injEq, true_and]
    omega
theorem bys_lt {len : Nat} {zs : List Int} (hz : ∀ z ∈ zs, IntKind.u8.min ≤ z ∧ z ≤ IntKind.u8.max) : ∀ x ∈ (zs.take len).map Int.toNat, x < 256 := fun x hx' => by
  obtain ⟨z, hz', rfl⟩ := List.mem_map.1 hx'
  have := hz z (List.mem_of_mem_take hz')
  have e1 : IntKind.u8.min = 0 := rfl
  have e2 : IntKind.u8.max = 255 := rfl
  omega
set_option maxRecDepth 100000 in
theorem contract (H : Type) (enc : TypeId × Value → H) (W : World) (base : Nat) (args : Array Value) (ds gs : List (DataW H)) (before : List MemPlace)
    (hval : ∀ (j : Nat) t v, Tryz.f3.params[j]? = some t → args[j]? = some v → Value.okWide Tryz.prog W .any base t v)
    (hW : DataW.Whole enc Tryz.prog Tryz.f3.params.toList Rows.describeApartSpec.vars false W args.toList ds gs before) (hlaid : laidMetH Tryz.prog Rows.describeApartRow.laid W) (hsh : W.ShapedOpen Tryz.prog) :
    Calls Tryz.prog 3 args W fun e W' => ∃ v, e = .returned v ∧ Rows.describeApartSpec.post enc Tryz.prog Tryz.f3 false true false false W args v W' := by
  have hW' := hW
  obtain ⟨p, q, hA0, hV, rfl, _, _⟩ := hW
  have hA : DataW.TrodAll enc Tryz.prog W 0 (fun _ => true) true Tryz.f3.params.toList args.toList ds p := hA0
  rw [Tryz.params3] at hA hval
  obtain ⟨v0, vs0, d0, ds0, p0, q0, hargs, rfl, rfl, h0, r0⟩ := trodAll_cons hA
  obtain ⟨v1, vs1, d1, ds1, p1, q1, rfl, rfl, rfl, h1, r1⟩ := trodAll_cons r0
  obtain ⟨v2, vs2, d2, ds2, p2, q2, rfl, rfl, rfl, h2, r2⟩ := trodAll_cons r1
  obtain ⟨rfl, rfl, rfl⟩ := trodAll_nil r2
  obtain rfl : args = #[v0, v1, v2] := by cases args; simp_all
  obtain ⟨rfl, rfl⟩ := trodVars_none hV
  clear hA0 hA
  simp only [List.append_nil] at hW'
  have hlt : ∀ x ∈ p0 ++ (p1 ++ p2), x.block < W.heap.size := fun x hx => by simpa using hW'.lt x hx
  have hl0 : ∀ x ∈ p0, x.block < W.heap.size := fun x hx => hlt x (List.mem_append_left _ hx)
  have hl1 : ∀ x ∈ p1, x.block < W.heap.size := fun x hx => hlt x (List.mem_append_right _ (List.mem_append_left _ hx))
  have hl2 : ∀ x ∈ p2, x.block < W.heap.size := fun x hx => hlt x (List.mem_append_right _ (List.mem_append_right _ hx))
  have hG := glob_lt hsh (by kernel_rfl)
  have hpos : 0 < Tryz.prog.globals.size := of_decide_eq_true (by kernel_rfl)
  have hheap : 0 < W.heap.size := by have := hG 0 hpos; omega
  obtain ⟨m0, hm0⟩ := int_of_shape (k := .i64) (g := 0) (t := 3) hsh hpos (by kernel_rfl) (by kernel_rfl) (by kernel_rfl) Tryz.underlying3
  obtain ⟨sd, hv2, _, _, _⟩ := open_int (P := Tryz.prog) Tryz.underlying5 (hval 2 5 v2 rfl rfl) h2
  obtain ⟨o, len, zs, m, ho, hm1, hm2, hlen, hm3, hz, hrel⟩ := start_intsB (P := Tryz.prog) Tryz.prog.globals.size Tryz.underlying22 Tryz.underlying5 oneCell hheap (hval 0 22 v0 rfl rfl) h0
  obtain ⟨o', len', zs', m', ho', hm1', hm2', hlen', hm3', hz', hrel'⟩ := start_intsB (P := Tryz.prog) (Tryz.prog.globals.size + 1) Tryz.underlying22 Tryz.underlying5 oneCell hheap (hval 1 22 v1 rfl rfl) h1
  have hS := SRel.startL (Rs := RsOf Tryz.prog) (P := Tryz.prog) (w := W) (gl := (fun g => if g = 0 then some [.int .i64 m0] else if g = 1 then some (powZ.map (AV.int .u64)) else none)) (ls := [zs.map (AV.int .u8), zs'.map (AV.int .u8)]) (ms := [m, m']) hG
    (fun g xs _ e k x hx => by
      by_cases q : g = 0
      · rw [if_pos q] at e; cases e
        subst q
        cases k with
        | zero => simp only [List.getElem?_cons_zero, Option.some.injEq] at hx; subst hx; exact ⟨_, hm0, fun ρ => VRel.int⟩
        | succ k => simp at hx
      · rw [if_neg q] at e
        by_cases q2 : g = 1
        · rw [if_pos q2] at e; cases e
          subst q2
          have hk : k < powZ.length := by
            rcases Nat.lt_or_ge k powZ.length with q3 | q3
            · exact q3
            · rw [List.getElem?_eq_none (by simpa using q3)] at hx; cases hx
          have hcell := (pow_tab hlaid).cell (g := 1) (by kernel_rfl) k hk
          refine ⟨_, hcell, fun ρ => ?_⟩
          rw [List.getElem?_map, List.getElem?_eq_getElem hk] at hx
          simp only [Option.map_some, Option.some.injEq] at hx
          subst hx
          rw [List.getD_eq_getElem?_getD, List.getElem?_eq_getElem hk]
          exact VRel.int
        · rw [if_neg q2] at e; cases e) rfl (fun x hx => by
      simp only [List.mem_cons, List.not_mem_nil, or_false] at hx
      rcases hx with rfl | rfl
      · exact hm1
      · exact hm1') (fun j l x e1 e2 => by
      match j with
      | 0 => simp only [List.getElem?_cons_zero, Option.some.injEq] at e1 e2; subst e1; subst e2; exact ⟨hm2, hm3⟩
      | 1 => simp only [List.getElem?_cons_succ, List.getElem?_cons_zero, Option.some.injEq] at e1 e2; subst e1; subst e2; exact ⟨hm2', hm3'⟩
      | _ + 2 => simp at e1)
  have hB := bys_of (g := (startL Tryz.prog.globals.size (fun g => if g = 0 then some [.int .i64 m0] else if g = 1 then some (powZ.map (AV.int .u64)) else none) [zs.map (AV.int .u8), zs'.map (AV.int .u8)]).get) ho (by simp [startL]) hlen hz
  have hB' := bys_of (g := (startL Tryz.prog.globals.size (fun g => if g = 0 then some [.int .i64 m0] else if g = 1 then some (powZ.map (AV.int .u64)) else none) [zs.map (AV.int .u8), zs'.map (AV.int .u8)]).get) ho' (by simp [startL]) hlen' hz'
  have h00 : (startL Tryz.prog.globals.size (fun g => if g = 0 then some [.int .i64 m0] else if g = 1 then some (powZ.map (AV.int .u64)) else none) [zs.map (AV.int .u8), zs'.map (AV.int .u8)]).get 0 = some (.cells [.int .i64 m0] false) := by
    simp only [startL, if_pos hpos, if_true, Option.map_some]
  have hpp : 1 < Tryz.prog.globals.size := of_decide_eq_true (by kernel_rfl)
  have hp0 : (startL Tryz.prog.globals.size (fun g => if g = 0 then some [.int .i64 m0] else if g = 1 then some (powZ.map (AV.int .u64)) else none) [zs.map (AV.int .u8), zs'.map (AV.int .u8)]).get 1 = some (.cells pow10L false) := by
    simp only [startL, if_pos hpp]
    rfl
  have hv : VRel (startM Tryz.prog.globals.size (fun g => if g = 0 then some [AV.int .i64 m0] else if g = 1 then some (powZ.map (AV.int .u64)) else none) [m, m']) (.slice o len none 1) v0 := hrel _ (by simp [startM])
  have hv' : VRel (startM Tryz.prog.globals.size (fun g => if g = 0 then some [AV.int .i64 m0] else if g = 1 then some (powZ.map (AV.int .u64)) else none) [m, m']) (.slice o' len' none 1) v1 := hrel' _ (by simp [startM])
  have hv'' : VRel (startM Tryz.prog.globals.size (fun g => if g = 0 then some [AV.int .i64 m0] else if g = 1 then some (powZ.map (AV.int .u64)) else none) [m, m']) (.int .u8 sd) v2 := by rw [hv2]; exact VRel.int
  have hlaw := apart_law (z := 1) (z' := 1) (sd := sd) hB (bys_lt hz) hB' (bys_lt hz') h00 hp0
  refine (RunF.calls Tryz.func3 (by kernel_rfl) (by kernel_rfl) hlaw (cargs := #[v0, v1, v2]) (VRelL.mk_cons hv (VRelL.mk_cons hv' (VRelL.mk_cons hv'' VRelL.mk_nil))) hS).mono ?_
  rintro e W' ⟨cv, rfl, u, ρ', σ', hu, _, _, hr, hS'⟩
  subst hu
  have hcv : cv = .bool true := by simpa only [VRel] using hr
  subst hcv
  have bel := hS'.below
  exact ⟨_, rfl, _, _, _, [], _, [], hW', trodAll_mk1 (shut_bool Tryz.underlying4 _), trodAll_mk3 (Below.trod outer (by kernel_rfl) (of_decide_eq_true (by kernel_rfl)) h0 bel hl0) (Below.trod outer (by kernel_rfl) (of_decide_eq_true (by kernel_rfl)) h1 bel hl1) (Below.trod outer (by kernel_rfl) (of_decide_eq_true (by kernel_rfl)) h2 bel hl2), rfl, bel.frame _, fun h => by cases h⟩
set_option maxRecDepth 100000 in
theorem lifted (os : Os) (started : os.Started) (H : Type) (enc : TypeId × Value → H) (F : Stop.Interp) :
    ReturnsInHanded {} Tryz.checked os 3 .any ((OpenSpec.ofChange Rows.describeApartSpec).preRow enc Tryz.prog Tryz.f3 Rows.describeApartRow.domain false Rows.describeApartRow.laid) (((OpenSpec.ofChange Rows.describeApartSpec).at F).post enc Tryz.prog Tryz.f3 false true false false) := by
  refine returnsInHanded_of_row (C := Tryz.checked) (s := OpenSpec.ofChange Rows.describeApartSpec) own started (by kernel_rfl) Tryz.func3
    (witness_row_atRef (enc := enc) (C := Tryz.checked) false (laidWorld os) #[.slice none 0 0, .slice none 0 0, .int .u8 0] rfl (by kernel_rfl) (by kernel_rfl) (by kernel_rfl) (witness_row os enc)) ?_
  intro W base args ds gs before hval hW _ _ _ hlaid hsh _
  exact contract H enc W base args ds gs before hval hW hlaid hsh
theorem said : Rows.DescribeApartSaid :=
  OpenClaim.holds_of_cond 3 Tryz.f3 rfl rfl rfl rfl rfl rfl rfl ⟨rfl, rfl, rfl, rfl, rfl⟩ rfl rfl rfl rfl rfl (by kernel_rfl) Tryz.func3 (by kernel_rfl)
    (of_decide_eq_true (by kernel_rfl)) (by unfold Func.isWrapper; first | (rw [if_pos (by decide +kernel)]; kernel_rfl) | (rw [if_neg (by decide +kernel)]; exact ⟨rfl, rfl⟩))
    (fun os started H enc _ F => by rw [OpenClaim.pre_eq_preRow]; exact lifted os started H enc F)
theorem plain (f : FuncId) (fn : Func) (hf : Tryz.pinned.checked.prog.funcNamed "lyceum/lyceumlaw41.DescribeApart" = some f) (hfn : Tryz.pinned.checked.prog.funcs[f]? = some fn) :
    false = Tryz.pinned.checked.prog.looks [] ∧ ∀ (j : Nat) t, fn.params[j]? = some t → Tryz.pinned.checked.prog.wantsStandIn t = false := by
  obtain rfl : f = 3 := Option.some.inj ((show Tryz.prog.funcNamed "lyceum/lyceumlaw41.DescribeApart" = some 3 by kernel_rfl).symm.trans hf) |>.symm
  obtain rfl : fn = Tryz.f3 := (Option.some.inj (Tryz.func3.symm.trans hfn)).symm
  refine ⟨by kernel_rfl, fun j t ht => ?_⟩
  rw [Tryz.params3] at ht
  have hm : t = 22 ∨ t = 5 := by simpa using Array.mem_of_getElem? ht
  rcases hm with rfl | rfl
  · exact (show Tryz.prog.wantsStandIn 22 = false by kernel_rfl)
  · exact (show Tryz.prog.wantsStandIn 5 = false by kernel_rfl)
theorem card : Rows.DescribeApartCardSaid :=
  Claim7.holds_tied_plain_at .later [] _ _ _ _ said (fun _ h => by cases h) (by kernel_rfl) (fun _ h => by cases h) describeApart_row_tie rfl ⟨rfl, rfl⟩ (by kernel_rfl) rfl plain (by kernel_rfl)
end Go.Proofs.YtndfemigjgpdlaaGreatDoor.describeApart
