/-
  A PART of the proof: AmOps8, AmOps9, AmSound, AmWp, AmResC, AmIt, AmFresh, AmNodes, AmInv, AmExec, AmDraw, AmCode, AmCall.
-/
import Derived.Laws.BytesString
import Derived.MapKept
import Derived.Test.YtndfemigjgpdlaaGreatDoorT00
import Derived.AtR
import Derived.RangeFuncIn
import Derived.Orders
set_option linter.unusedSimpArgs false
set_option linter.unusedVariables false
namespace Go.Am
open Go.RowKit
variable {R : Code → AC → Prop} {P : Program} {w0 w w' : World} {ρ ρ' : RMap} {D : List Nat × List Nat} {σ : AState} {ts : List AV} {ev : Operand → Value} {v : AV} {es : List Eff}
theorem ok_copy {d s : Operand} {D' S' : X} {ats : Array TypeId} {t e : TypeId} {sz : Nat} (hd : resX P d = some D') (hs : resX P s = some S') (ht : ats[0]? = some t) (hu : P.underlying t = some (.slice e)) (hsz : szOf P e = some sz) :
    OpOk R P (.call { callee := .builtin .copy, args := #[d, s], argTypes := ats }) (.copy sz D' S') := by
  intro w0 w ρ D σ ts ev v es od ty pos af gd h he hv
  simp only [opA] at hv
  have hdr := he _ _ hd
  have hsr := he _ _ hs
  split at hv
  case h_2 => cases hv
  rename_i o dLen c sz' sLen e1 e2
  have hlen := lenA_ok (P := P) (w := w) hsr e2
  rw [e1] at hdr
  have hm : (#[d, s] : Array Operand).map ev = #[ev d, ev s] := by simp
  have hmin : Nat.min sLen dLen ≤ sLen := Nat.min_le_left _ _
  split at hv
  · rename_i xs hxs
    injection hv with hv; injection hv with h2 h3; subst h2; subst h3
    obtain ⟨_, cs, hcs, hfirst⟩ := firstA_ok h hsr e2 hmin hxs
    simp only [VRel, SlRel] at hdr
    obtain ⟨rfl, _, hc⟩ := hdr
    refine .pure h (cv := goInt (Nat.min sLen 0 : Nat)) ?_ VRel.int
    have hfirst' : (Builtin.firstCells sz 0 (ev s)).run P w = .ok cs.toArray w := (show Nat.min sLen 0 = 0 from Nat.min_zero sLen) ▸ hfirst
    simp only [execOp, resolve, Sem.run_bind, Sem.run_pure, Result.andThen_ok, invoke, builtin, Builtin.copy_, ht, hm, hc]
    simp [run_underlying hu, run_sizeOf_of hsz, hlen, hfirst']
  · rename_i xs i off hxs
    split at hv
    case h_2 => cases hv
    rename_i l hg
    split at hv
    case isFalse => cases hv
    rename_i hc
    obtain ⟨rfl, hc2, hc3⟩ := hc
    injection hv with hv; injection hv with h2 h3; subst h2; subst h3
    obtain ⟨hxl, cs, hcs, hfirst⟩ := firstA_ok h hsr e2 hmin hxs
    have hdr' := hdr
    simp only [VRel, SlRel] at hdr
    obtain ⟨loc, a, ccap, r1, r2, r3, r4, r5, r6, r7⟩ := hdr
    have hfirst' : (Builtin.firstCells sz' (Nat.min sLen dLen) (ev s)).run P w = .ok cs.toArray w := hfirst
    by_cases h0 : dLen = 0
    · subst h0
      have hx0 : xs = [] := by
        have : xs.length = 0 := by rw [hxl]; simp
        exact List.length_eq_zero_iff.1 this
      subst hx0
      have hcs0 := VRelL.nil_iff.1 hcs
      subst hcs0
      obtain ⟨w', hrun, hS⟩ := h.store (P := P) (vs := []) (cs := []) hg r1 (o := off) (by simpa using hc2) .mk_nil rfl
      simp only [storeCells, Sem.run_pure] at hrun
      injection hrun with _ hrun; subst hrun
      have hf0 : (Builtin.firstCells sz' 0 (ev s)).run P w = .ok #[] w := (show Nat.min sLen 0 = 0 from Nat.min_zero sLen) ▸ hfirst'
      refine ⟨ρ, goInt (Nat.min sLen 0 : Nat), w, .value _, RX.refl _ _, ?_, rfl, VRel.int, hS⟩
      simp only [execOp, resolve, Sem.run_bind, Sem.run_pure, Result.andThen_ok, invoke, builtin, Builtin.copy_, ht, hm, r2]
      simp [run_underlying hu, run_sizeOf_of hsz, hlen, hf0, storeCells]
    · obtain ⟨loc', ccap', r1', r2', _, _⟩ := slice_place hdr' (by omega)
      rw [r1] at r1'; cases r1'
      obtain ⟨w', hrun, hS⟩ := h.store (P := P) hg r1 (o := off) hc2 hcs hc3
      refine ⟨ρ, goInt (Nat.min sLen dLen : Nat), w', .value _, RX.refl _ _, ?_, rfl, VRel.int, hS⟩
      simp only [execOp, resolve, Sem.run_bind, Sem.run_pure, Result.andThen_ok, invoke, builtin, Builtin.copy_, ht, hm, r2']
      simp [run_underlying hu, run_sizeOf_of hsz, hlen, hfirst', hrun]
  · cases hv
theorem ok_mkSlice {t e : TypeId} {l c : Operand} {L C : X} {i : TypeInfo} {z : Value} {zc : List AV} (hl : resX P l = some L) (hc : resX P c = some C) (hu : P.underlying t = some (.slice e)) (hi : P.info? e = some i) (hz : i.zero = some z)
    (hzc : absL z.cells.toList = some zc) (hzs : z.cells.size = i.size) : OpOk R P (.makeSlice t l c) (.mkSlice i.size i.bytes zc L C) := by
  intro w0 w ρ D σ ts ev v es od ty pos af gd h he hv
  simp only [opA] at hv
  split at hv
  case h_2 => cases hv
  rename_i ln cn e1 e2
  split at hv
  case isFalse => cases hv
  rename_i hk
  obtain ⟨k1, k2, k3, k4, k5⟩ := hk
  injection hv with hv; injection hv with h2 h3; subst h2; subst h3
  obtain ⟨kl, hlv⟩ := natOf_rel (he _ _ hl) e1
  obtain ⟨kc, hcv⟩ := natOf_rel (he _ _ hc) e2
  have hcle : cn ≤ 281474976710656 := Nat.le_trans (Nat.le_mul_of_pos_right _ k3) k4
  have hwl : IntKind.i64.wrap (ln : Int) = ln := IntWalk.i64_in _ ⟨by omega, by omega⟩
  have hwc : IntKind.i64.wrap (cn : Int) = cn := IntWalk.i64_in _ ⟨by omega, by omega⟩
  have hzero : (zeroValue e).run P w = .ok z w := by simp [zeroValue, run_info hi, hz]
  have hzr := zeros_rel (ρ := ρ) (absL_rel hzc) (by omega) cn
  rw [hzs] at hzr
  have hlen : (List.replicate cn zc).flatten.length = cn * i.size := by simp [k5]
  have hS := h.newRow (t := e) (c := (Array.range (cn * i.size)).map (z.cells[· % i.size]!)) (l := (List.replicate cn zc).flatten) (by
    rw [hlen, List.take_of_length_le (by simp)]; exact hzr) (by rw [hlen]; simp)
  refine ⟨_, .slice (some ⟨w.heap.size, 0, none⟩) ln cn, _, .value _, h.rx _, ?_, rfl, ?_, hS⟩
  · have t1 : ¬ (cn : Int) < 0 := by omega
    have t2 : ¬ ((i.bytes : Int) * cn > 2 ^ 48) := by
      have k4' : i.bytes * cn ≤ 281474976710656 := by rw [Nat.mul_comm]; exact k4
      have h1 : ((i.bytes * cn : Nat) : Int) ≤ ((281474976710656 : Nat) : Int) := Int.ofNat_le.2 k4'
      have e3 : (2 : Int) ^ 48 = ((281474976710656 : Nat) : Int) := by decide
      rw [e3, ← Int.natCast_mul]; omega
    have t3 : ¬ (ln : Int) < 0 := by omega
    have t4 : ¬ (ln : Int) > cn := by omega
    have hcond : (((decide ((cn : Int) < 0) || decide ((i.bytes : Int) * cn > 2 ^ 48)) || decide ((ln : Int) < 0)) || decide ((ln : Int) > cn)) = false := by
      rw [decide_eq_false t1, decide_eq_false t2, decide_eq_false t3, decide_eq_false t4]; rfl
    simp only [execOp, Instr.makeSlice, Sem.run_bind, run_underlying hu, hlv, hcv, asInt, asIntOf, Sem.run_pure, Result.andThen_ok, run_info hi, hwl, hwc]
    rw [hcond]
    simp only [Bool.false_eq_true, if_false, Sem.run_bind, Sem.run_pure, Result.andThen_ok, run_askRoom, Int.toNat_natCast, run_sizeOf_of (show szOf P e = some i.size by simp [szOf, hi])]
    by_cases h0 : cn * i.size = 0
    · simp [h0, Go.newRow, Array.range_zero']
    · simp only [h0, if_false, Sem.run_bind, Sem.run_pure, Result.andThen_ok, hzero, hzs, Go.newRow, run_newObj]
  · simp only [VRel, SlRel]
    refine ⟨_, _, cn, upd_same _ _ _, rfl, rfl, .inr ⟨rfl, rfl⟩, k1, .inr (by simp), fun c e => Option.some.inj e⟩
theorem ok_sliceA {t e : TypeId} {x : Operand} {lo hi mx : Option Operand} {X' : X} {lo' hi' mx' : Option X} {n sz : Nat} (hx : resX P x = some X') (hlo : resXO P lo = some lo') (hhi : resXO P hi = some hi') (hmx : resXO P mx = some mx')
    (hu : P.underlying t = some (.array n e)) (hn : szOf P e = some sz) : OpOk R P (.slice t x lo hi mx) (.sliceA n sz X' lo' hi' mx') := by
  intro w0 w ρ D σ ts ev v es od ty pos af gd h he hv
  simp only [opA] at hv
  split at hv
  case h_2 => cases hv
  rename_i i o e1
  split at hv
  case h_2 => cases hv
  rename_i l wr hg
  split at hv
  case h_2 => cases hv
  rename_i lw hh c' hb
  split at hv
  case isFalse => cases hv
  rename_i hc
  injection hv with hv; injection hv with h2 h3; subst h2; subst h3
  have hr := he _ _ hx; rw [e1] at hr; simp only [VRel] at hr
  obtain ⟨loc, hloc, hcv⟩ := hr
  obtain ⟨m, hrun, h4, h5, h6, h7⟩ := bounds_ok (P := P) (w := w) (sl := false) (len := n) (ccap := n) (cap := some n) (resXO_rel he hlo) (resXO_rel he hhi) (resXO_rel he hmx) (fun c e => Option.some.inj e) (Nat.le_refl _) hb
  have hbl := (h.blk _ _ _ hg hloc).1
  refine .pure h (cv := .slice (some (if m = lw then ⟨loc.blk, loc.base + o, none⟩ else (⟨loc.blk, loc.base + o, none⟩ : Addr).add (lw * sz))) (hh - lw) (m - lw)) ?_ ?_
  · simp only [execOp, Instr.sliceAt, Sem.run_bind, run_underlying hu, hcv, Instr.sureAddr, Sem.run_pure, Result.andThen_ok, hrun, run_sizeOf_of hn]
  · simp only [VRel, SlRel]
    refine ⟨loc, _, _, hloc, rfl, ?_, ?_, by omega, ?_, h7⟩
    · split <;> simp [add_none]
    · by_cases hml : m = lw
      · left; omega
      · right; rw [if_neg hml, add_none]; exact ⟨rfl, by simp only; omega⟩
    · by_cases hml : m = lw
      · left; omega
      · right
        have : o + lw * sz + (m - lw) * sz = o + m * sz := by
          rw [Nat.add_assoc, ← Nat.add_mul]; congr 2; omega
        have : m * sz ≤ n * sz := Nat.mul_le_mul_right _ h6
        omega
theorem toBytes_ok : ∀ {l : List AV} {cs : List Value} {s : List UInt8}, VRelL ρ l cs → toBytes l = some s → ∃ ns : List Int, cs = ns.map (Value.int .u8) ∧ s = ns.map fun n => UInt8.ofNat n.toNat
  | [], cs, s, h, e => by
    simp only [toBytes, Option.some.injEq] at e; subst e
    have := VRelL.nil_iff.1 h; subst this
    exact ⟨[], rfl, rfl⟩
  | x :: r, cs, s, h, e => by
    obtain ⟨y, ys, rfl, hx, hr⟩ := VRelL.cons_iff.1 h
    unfold toBytes at e
    split at e
    · rename_i heq; cases heq
    · rename_i n r' heq
      injection heq with h1 h2; subst h1; subst h2
      split at e
      · rename_i l hl
        injection e with e; subst e
        obtain ⟨ns, rfl, rfl⟩ := toBytes_ok hr hl
        simp only [VRel] at hx; subst hx
        exact ⟨n :: ns, rfl, rfl⟩
      · cases e
    · cases e
theorem foldl_push (ns : List Int) : ∀ (r : ByteArray), (ns.foldl (fun r n => r.push (UInt8.ofNat n.toNat)) r).data.toList = r.data.toList ++ ns.map fun n => UInt8.ofNat n.toNat := by
  induction ns with
  | nil => intro r; simp
  | cons n ns ih => intro r; rw [List.foldl_cons, ih]; simp [ByteArray.push]
theorem ok_bytesStr {src dst e : TypeId} {x : Operand} {X' : X} (hx : resX P x = some X') (hs : P.underlying src = some (.slice e)) (hd : P.underlying dst = some .string) (hE : P.underlying e = some (.int .u8)) :
    OpOk R P (.convert src dst x) (.bytesStr X') := by
  intro w0 w ρ D σ ts ev v es od ty pos af gd h he hv
  simp only [opA] at hv
  split at hv
  case h_2 => cases hv
  rename_i o n c sz e1
  split at hv
  case h_2 => cases hv
  rename_i l hl
  split at hv
  case h_2 => cases hv
  rename_i s hsb
  injection hv with hv; injection hv with h2 h3; subst h2; subst h3
  have hr := he _ _ hx; rw [e1] at hr
  obtain ⟨hlen, cs, hcs, hfirst⟩ := firstA_ok h hr rfl (Nat.le_refl _) hl
  obtain ⟨ns, rfl, rfl⟩ := toBytes_ok hcs hsb
  have hconv : ∀ {a c}, ev x = .slice a n c → (execOp ev ⟨od, .convert src dst x, ty, pos, af, gd⟩).run P w = ((Conv.bytesToString (.slice a n c)).run P w).andThen fun u w' => .ok (.value u) w' := by
    intro a c ha
    simp only [execOp, Sem.run_bind, ha, run_convert_bytes_string w src dst e a n c hs hE hd, Sem.run_pure]
  simp only [VRel] at hr
  cases o with
  | none =>
    simp only [SlRel] at hr
    obtain ⟨rfl, _, hc⟩ := hr
    have : ns = [] := by
      have := hcs.length; rw [hlen] at this; simpa using this.symm
    subst this
    exact .pure h (cv := .string .empty) (by rw [hconv hc]; rfl) (by simp [VRel])
  | some p =>
    obtain ⟨i, off⟩ := p
    simp only [SlRel] at hr
    obtain ⟨loc, a, ccap, r1, r2, r3, r4, r5, r6, r7⟩ := hr
    rw [r2] at hfirst
    simp only [Builtin.firstCells, Nat.mul_one] at hfirst
    refine .pure h (cv := .string (ns.foldl (fun r n => r.push (UInt8.ofNat n.toNat)) .empty)) ?_ ?_
    · rw [hconv r2, run_bytesToString w a n ccap ns hfirst]; rfl
    · simp only [VRel]; exact ⟨_, rfl, by rw [foldl_push]; simp⟩
def freezeF (off : Nat) : Obj → Obj
  | .cells c elem (lo, hi) => .cells c elem (if lo == hi then (off, off + 1) else (min lo off, max hi (off + 1)))
  | o => o
theorem freeze_heap (w : World) (a : Addr) (k : Nat) : (w.freeze a 1).heap[k]? = if a.block = k then (w.heap[k]?).map (freezeF a.off) else w.heap[k]? := by
  simp only [World.freeze, if_neg (show ¬ (1 : Nat) = 0 by omega), Array.getElem?_modify]
  split
  · congr 1
  · rfl
def bytesWorld (w : World) (e : TypeId) (c : Array Value) : World := (w.drew.alloc (.cells c e)).freeze ⟨w.heap.size, c.size, none⟩ 1
theorem bytesWorld_new (w : World) (e : TypeId) (c : Array Value) : (bytesWorld w e c).heap[w.heap.size]? = some (.cells c e (c.size, c.size + 1)) := by
  unfold bytesWorld
  rw [freeze_heap]
  have h1 : (w.drew.alloc (.cells c e)).heap[w.heap.size]? = some (.cells c e (0, 0)) := by
    show (w.heap.push _)[w.heap.size]? = _
    simp
  rw [h1, if_pos rfl]
  simp [freezeF]
theorem bytesWorld_below (w : World) (e : TypeId) (c : Array Value) : Below w.heap.size w (bytesWorld w e c) := by
  have h0 : (w.drew.alloc (.cells c e)).heap = w.heap.push (.cells c e) := rfl
  refine ⟨rfl, rfl, rfl, Nat.le_of_lt (lt_of_some (bytesWorld_new w e c)), fun k hk => ?_⟩
  unfold bytesWorld
  rw [freeze_heap, if_neg (by simp only; omega), h0, Array.getElem?_push, if_neg (by omega)]
theorem run_stringToBytes (e : TypeId) (bs : ByteArray) : (Conv.stringToBytes e bs).run P w =
    .ok (.slice (some ⟨w.heap.size, 0, none⟩) bs.size (grownCap w bs.size 0 e)) (bytesWorld w e ((bs.data.map fun b => Value.int .u8 b.toNat) ++ Array.replicate (grownCap w bs.size 0 e - bs.size) (.int .u8 0))) := by
  have hsh : ∀ (c : Array Value) (w' : World), w'.heap = w.heap.push (.cells c e) → w'.shape? w.heap.size = some (e, c.size) := by
    intro c w' hw
    simp [World.shape?, hw]
  simp only [Conv.stringToBytes, Sem.run_bind, run_choose, Question.forced, Bool.false_eq_true, if_false, Result.andThen_ok, Go.newRow, run_newObj, Sem.run_pure, markStringish, run_shape]
  rw [hsh _ _ rfl]
  rfl
theorem ok_strBytes {src dst e : TypeId} {x : Operand} {X' : X} (hx : resX P x = some X') (hs : P.underlying src = some .string) (hd : P.underlying dst = some (.slice e)) (hE : P.underlying e = some (.int .u8)) :
    OpOk R P (.convert src dst x) (.strBytes X') := by
  intro w0 w ρ D σ ts ev v es od ty pos af gd h he hv
  simp only [opA] at hv
  split at hv
  case h_2 => cases hv
  rename_i s e1
  injection hv with hv; injection hv with h2 h3; subst h2; subst h3
  have hr := he _ _ hx; rw [e1] at hr; simp only [VRel] at hr
  obtain ⟨bs, hc, rfl⟩ := hr
  have hge := grownCap_ge w bs.size 0 e
  have hrun := run_stringToBytes (P := P) (w := w) e bs
  generalize hcl : (bs.data.map fun b => Value.int .u8 b.toNat) ++ Array.replicate (grownCap w bs.size 0 e - bs.size) (Value.int .u8 0) = cells at hrun
  have hbs : bs.data.size = bs.size := rfl
  have hsize : cells.size = grownCap w bs.size 0 e := by rw [← hcl, Array.size_append, Array.size_map, Array.size_replicate]; omega
  have hlist : cells.toList.take bs.size = bs.data.toList.map fun b => Value.int .u8 b.toNat := by
    rw [← hcl, Array.toList_append, Array.toList_map, List.take_append_of_le_length (by simp), List.take_of_length_le (by simp)]
  have hblk2 := bytesWorld_new w e cells
  have hS := h.push (b := .cells (bytesOf bs.data.toList) true) (m := ⟨w.heap.size, 0, cells.size⟩) (bytesWorld_below w e cells) (Nat.le_refl _) (lt_of_some hblk2) (by
    have hcell : ∀ k, (bytesWorld w e cells).cell? ⟨w.heap.size, 0 + k, none⟩ = cells[k]? := fun k => by simp [World.cell?, hblk2]
    refine ⟨?_, fun k x e => ?_, fun _ => ⟨h.below.size, fun k hk => ⟨?_, ?_⟩⟩⟩
    · simp only [bytesOf, List.length_map, Array.length_toList, hsize]; omega
    · rw [hcell]
      obtain ⟨y, hy, hv⟩ := (bytesOf_rel (ρ := upd ρ σ.next ⟨w.heap.size, 0, cells.size⟩) bs.data.toList).get e
      rw [← hlist, List.getElem?_take] at hy
      split at hy
      · exact ⟨y, by simpa using hy, hv⟩
      · cases hy
    · rw [hcell]; exact ⟨_, Array.getElem?_eq_getElem hk⟩
    · simp only at hk
      simp only [World.frozen?, hblk2]
      simp; omega)
  refine ⟨_, .slice (some ⟨w.heap.size, 0, none⟩) bs.size (grownCap w bs.size 0 e), _, .value _, h.rx _, ?_, rfl, ?_, hS⟩
  · simp only [execOp, convert, Sem.run_bind, run_underlying hs, run_underlying hd, hc, run_underlying hE, Result.andThen_ok, Sem.run_pure, hrun]
  · simp only [VRel, SlRel]
    refine ⟨_, _, _, upd_same _ _ _, rfl, rfl, .inr ⟨rfl, rfl⟩, ?_, .inr (by simp [hsize]), fun c e => by cases e⟩
    simp only [Array.length_toList]; exact hge
end Go.Am
namespace Go.Am
open Go.RowKit
variable {R : Code → AC → Prop} {P : Program} {w0 w w' : World} {ρ ρ' : RMap} {D : List Nat × List Nat} {σ : AState} {ts : List AV} {ev : Operand → Value} {v : AV} {es : List Eff}
def kindDesc : BK → TypeDesc → Prop
  | .int, d => ∃ k, d = .int k
  | .str, d => d = .string
  | .bool, d => d = .bool
theorem basicType_desc {t : TypeId} {b : BK} (h : basicType P t = some b) : ∃ d, P.underlying t = some d ∧ kindDesc b d := by
  unfold basicType at h
  split at h
  · rename_i k e; injection h with h; subst h; exact ⟨_, e, k, rfl⟩
  · rename_i e; injection h with h; subst h; exact ⟨_, e, rfl⟩
  · rename_i e; injection h with h; subst h; exact ⟨_, e, rfl⟩
  · cases h
theorem sameNow_ok {b : BK} {d : TypeDesc} {x y : AV} {a c : Value} {r : Bool} (hd : kindDesc b d) (hx : VRel ρ x a) (hy : VRel ρ y c) (h : kEq b x y = some r) : Instr.sameNow d a c = some r ∧ (r = true → ∀ n, Instr.sameBits n c a = true) := by
  unfold kEq at h
  split at h
  · simp only [VRel] at hx hy; subst hx; subst hy
    obtain ⟨k, rfl⟩ := hd
    split at h
    · rename_i hk; subst hk
      injection h with h; subst h
      refine ⟨by simp [Instr.sameNow], fun e n => ?_⟩
      have := eq_of_beq e; subst this
      cases n <;> simp [Instr.sameBits]
    · cases h
  · simp only [VRel] at hx hy
    obtain ⟨bs, rfl, rfl⟩ := hx; obtain ⟨cs, rfl, rfl⟩ := hy
    injection h with h; subst h
    have hd' : d = .string := hd
    subst hd'
    refine ⟨by simp [Instr.sameNow, beq_toListBytes, toList_data], fun e n => ?_⟩
    have : bs = cs := by
      have := eq_of_beq e
      cases bs; cases cs; simp only [ByteArray.mk.injEq]; exact Array.toList_inj.1 this
    subst this
    cases n <;> simp [Instr.sameBits, beq_toListBytes]
  · simp only [VRel] at hx hy; subst hx; subst hy
    have hd' : d = .bool := hd
    subst hd'
    injection h with h; subst h
    refine ⟨by simp [Instr.sameNow], fun e n => ?_⟩
    have := eq_of_beq e; subst this
    cases n <;> simp [Instr.sameBits]
  · cases h
theorem findNow_ok {b : BK} {d : TypeDesc} {k : AV} {ck : Value} (hd : kindDesc b d) (hk : VRel ρ k ck) : ∀ {es : List (AV × AV)} {l : List MapEntry} {r : Option AV} (i : Nat), esRel ρ es l → keyFind b k es = some r →
    match r with
    | none => Instr.findNow d ck l i = some none ∧ ∀ (v : AV), keySet b k v es = es ++ [(k, v)]
    | some v => ∃ j cv, Instr.findNow d ck l i = some (some (i + j, cv)) ∧ VRel ρ v cv ∧ (∃ e, l[j]? = some e ∧ ∀ n, Instr.sameBits n e.key ck = true) ∧
        ∀ (u : AV) (cu : Value), VRel ρ u cu → esRel ρ (keySet b k u es) (l.modify j fun e => { e with key := ck, val := cu })
  | [], l, r, i, he, h => by
    simp only [esRel] at he; subst he
    simp only [keyFind, Option.some.injEq] at h; subst h
    exact ⟨rfl, fun v => rfl⟩
  | (k', v') :: es, l, r, i, he, h => by
    simp only [esRel] at he
    obtain ⟨e, t, rfl, hke, hve, ht⟩ := he
    simp only [keyFind] at h
    split at h
    · rename_i hq
      injection h with h; subst h
      obtain ⟨h1, h2⟩ := sameNow_ok hd hk hke hq
      refine ⟨0, e.val, ?_, hve, ⟨e, rfl, h2 rfl⟩, fun u cu hu => ?_⟩
      · simp [Instr.findNow, h1]
      · simp only [keySet, hq, List.modify_zero_cons, esRel]
        exact ⟨_, _, rfl, hk, hu, ht⟩
    · rename_i hq
      obtain ⟨h1, _⟩ := sameNow_ok hd hk hke hq
      have ih := findNow_ok (i := i + 1) hd hk ht h
      cases r with
      | none =>
        obtain ⟨q1, q2⟩ := ih
        exact ⟨by simp [Instr.findNow, h1, q1], fun v => by simp [keySet, hq, q2]⟩
      | some v =>
        obtain ⟨j, cv, q1, q2, ⟨e', q3, q4⟩, q5⟩ := ih
        refine ⟨j + 1, cv, ?_, q2, ⟨e', by simpa using q3, q4⟩, fun u cu hu => ?_⟩
        · simp only [Instr.findNow, h1, q1]
          congr 3; omega
        · simp only [keySet, hq, List.modify_succ_cons, esRel]
          exact ⟨_, _, rfl, hke, hve, q5 u cu hu⟩
    · cases h
theorem run_checkKey' {b : BK} {t : TypeId} {d : TypeDesc} {e : Bool} {ck : Value} (hu : P.underlying t = some d) (hd : kindDesc b d) (n : Nat) : (Instr.checkKey e (n + 1) t ck).run P w = .ok () w := by
  cases b with
  | int => obtain ⟨k, rfl⟩ := hd; simp [Instr.checkKey, run_underlying hu]
  | str => have hd' : d = .string := hd; subst hd'; simp [Instr.checkKey, run_underlying hu]
  | bool => have hd' : d = .bool := hd; subst hd'; simp [Instr.checkKey, run_underlying hu]
theorem run_findKey' {t : TypeId} {d : TypeDesc} {ck : Value} {l : List MapEntry} {r : Option (Nat × Value)} (hu : P.underlying t = some d) (h : Instr.findNow d ck l 0 = some r) : (Instr.findKey t ck l).run P w = .ok r w := by
  simp [Instr.findKey, run_underlying hu, h]
theorem ok_lookup {t key elem : TypeId} {x k : Operand} {ok : Bool} {b : BK} {z : AV} {X' K : X} (hu : P.underlying t = some (.map key elem)) (hb : basicType P key = some b) (hz : zeroA P elem = some z) (hx : resX P x = some X') (hk : resX P k = some K) :
    OpOk R P (.lookup t x k ok) (.lookup b ok z X' K) := by
  intro w0 w ρ D σ ts ev v es od ty pos af gd h he hv
  simp only [opA] at hv
  obtain ⟨d, hd1, hd2⟩ := basicType_desc hb
  have hxr := he _ _ hx
  have hkr := he _ _ hk
  split at hv
  case h_2 => cases hv
  rename_i es' he'
  obtain ⟨l, hl, hes⟩ : ∃ l : Array MapEntry, ((ev x = .map none ∧ l = #[]) ∨ ∃ r cl, ev x = .map (some r) ∧ w.heap[r]? = some (.map l cl)) ∧ esRel ρ es' l.toList := by
    split at he'
    · rename_i e1
      rw [e1] at hxr; simp only [VRel] at hxr
      injection he' with he'; subst he'
      exact ⟨#[], .inl ⟨hxr, rfl⟩, rfl⟩
    · rename_i i e1
      split at he'
      · rename_i es'' hg
        injection he' with he'; subst he'
        rw [e1] at hxr; simp only [VRel] at hxr
        obtain ⟨m, hm, hc⟩ := hxr
        obtain ⟨c, cl, hh, hes⟩ := h.map_at hg hm
        exact ⟨c, .inr ⟨_, cl, hc, hh⟩, hes⟩
      · cases he'
    · cases he'
  have hexec : ∀ {r : Option (Nat × Value)} {u : Value}, Instr.findNow d (ev k) l.toList 0 = some r → (match r with | some (_, v) => v = u | none => (zeroValue elem).run P w = .ok u w) →
      (execOp ev ⟨od, .lookup t x k ok, ty, pos, af, gd⟩).run P w = .ok (.value (if ok then .tuple #[u, .bool r.isSome] else u)) w := by
    intro r u hf hr
    rcases hl with ⟨hc, rfl⟩ | ⟨rr, cl, hc, hh⟩
    · simp only [execOp, Instr.lookup, Sem.run_bind, run_underlying hu, Result.andThen_ok, hc, Sem.run_pure, run_checkKey' hd1 hd2, run_findKey' hd1 hf]
      cases r with
      | none => simp only at hr; simp [hr]
      | some p => simp only at hr; subst hr; simp
    · simp only [execOp, Instr.lookup, Sem.run_bind, run_underlying hu, Result.andThen_ok, hc, run_getObj hh (by intros; simp), Sem.run_pure, run_checkKey' hd1 hd2, run_findKey' hd1 hf]
      cases r with
      | none => simp only at hr; simp [hr]
      | some p => simp only at hr; subst hr; simp
  split at hv
  · rename_i u hf
    injection hv with hv; injection hv with h2 h3; subst h2; subst h3
    obtain ⟨j, cv, q1, q2, _⟩ := findNow_ok (i := 0) hd2 hkr hes hf
    refine .pure h (hexec q1 rfl) ?_
    cases ok
    · exact q2
    · simp only [if_true]; exact VRel.tuple (.mk_cons q2 (.mk_cons VRel.bool .mk_nil))
  · rename_i hf
    injection hv with hv; injection hv with h2 h3; subst h2; subst h3
    obtain ⟨q1, _⟩ := findNow_ok (i := 0) hd2 hkr hes hf
    obtain ⟨cz, hzr, hzv⟩ := zeroA_ok (w := w) (ρ := ρ) hz
    refine .pure h (hexec q1 hzr) ?_
    cases ok
    · exact hzv
    · simp only [if_true]; exact VRel.tuple (.mk_cons hzv (.mk_cons VRel.bool .mk_nil))
  · cases hv
theorem esRel_append {l r : List (AV × AV)} {a c : List MapEntry} (h : esRel ρ l a) (k : esRel ρ r c) : esRel ρ (l ++ r) (a ++ c) := by
  induction l generalizing a with
  | nil => simp only [esRel] at h; subst h; simpa using k
  | cons x l ih =>
    obtain ⟨k', v'⟩ := x
    simp only [esRel] at h
    obtain ⟨e, t, rfl, h1, h2, h3⟩ := h
    exact ⟨e, t ++ c, rfl, h1, h2, ih h3⟩
theorem mapSet_ok {t key elem : TypeId} {m k x : Operand} {b : BK} {M K X' : X} {es : List Eff} {v : AV} (h : SRel R P w0 ρ D σ w) (he : EvRel P ρ ts ev) (hu : P.underlying t = some (.map key elem)) (hb : basicType P key = some b) (hm : resX P m = some M) (hk : resX P k = some K) (hx : resX P x = some X')
    (hv : opA σ.get σ.next ts (.mapSet b M K X') = some (v, es)) :
    v = U ∧ ∃ w', (Instr.mapUpdate t (ev m) (ev k) (ev x)).run P w = .ok () w' ∧ SRel R P w0 ρ D (σ.app es) w' := by
  simp only [opA] at hv
  obtain ⟨d, hd1, hd2⟩ := basicType_desc hb
  have hmr := he _ _ hm
  have hkr := he _ _ hk
  have hxr := he _ _ hx
  split at hv
  case h_2 => cases hv
  rename_i i e1
  split at hv
  case h_2 => cases hv
  rename_i es' hg
  rw [e1] at hmr; simp only [VRel] at hmr
  obtain ⟨loc, hloc, hc⟩ := hmr
  obtain ⟨c, cl, hh, hes⟩ := h.map_at hg hloc
  have hbm := (h.blk _ _ _ hg hloc).1
  split at hv
  case h_2 => cases hv
  rename_i r hf
  injection hv with hv; injection hv with h2 h3; subst h2; subst h3
  refine ⟨rfl, ?_⟩
  have key : ∀ (c' : Array MapEntry) (cl' : Nat), esRel ρ (keySet b (K.ev ts) (X'.ev ts) es') c'.toList → SRel R P w0 ρ D (σ.set i (.map (keySet b (K.ev ts) (X'.ev ts) es'))) { w with heap := w.heap.setIfInBounds loc.blk (.map c' cl') } := fun c' cl' hr =>
    h.setObj hg rfl hloc (by rw [hh]; simp) (fun r hr => by rw [hh] at hr; cases hr) hbm ⟨hbm, c', cl', by simp [Array.getElem?_setIfInBounds_self_of_lt (lt_of_some hh)], hr⟩
  have hfk := findNow_ok (i := 0) hd2 hkr hes hf
  cases r with
  | none =>
    obtain ⟨q1, q2⟩ := hfk
    refine ⟨_, ?_, key (c.push { key := ev k, val := ev x, born := cl }) (cl + 1) ?_⟩
    · simp only [Instr.mapUpdate, Sem.run_bind, run_underlying hu, Result.andThen_ok, hc, run_getObj hh (by intros; simp), run_checkKey' hd1 hd2, run_findKey' hd1 q1, run_setObj hh (by intros; simp)]
    · rw [q2, Array.toList_push]
      exact esRel_append hes ⟨_, _, rfl, hkr, hxr, rfl⟩
  | some u =>
    obtain ⟨j, cv, q1, q2, ⟨e, q3, q4⟩, q5⟩ := hfk
    rw [Nat.zero_add] at q1
    have hcj : c[j]? = some e := by simpa using q3
    refine ⟨_, ?_, key (c.modify j fun e => { e with key := ev k, val := ev x }) cl ?_⟩
    · simp only [Instr.mapUpdate, Sem.run_bind, run_underlying hu, Result.andThen_ok, hc, run_getObj hh (by intros; simp), run_checkKey' hd1 hd2, run_findKey' hd1 q1, hcj, Option.map_some, Option.getD_some, Instr.keyThatStays, q4 10000, if_true, Sem.run_pure,
        run_setObj hh (by intros; simp)]
    · rw [Array.toList_modify]; exact q5 _ _ hxr
theorem ok_mapUpdate {t key elem : TypeId} {m k x : Operand} {b : BK} {M K X' : X} (hu : P.underlying t = some (.map key elem)) (hb : basicType P key = some b) (hm : resX P m = some M) (hk : resX P k = some K) (hx : resX P x = some X') :
    OpOk R P (.mapUpdate t m k x) (.mapSet b M K X') ∧ OpOk R P (.insert t m k x) (.mapSet b M K X') := by
  constructor <;>
  · intro w0 w ρ D σ ts ev v es od ty pos af gd h he hv
    obtain ⟨rfl, w', hrun, hS⟩ := mapSet_ok h he hu hb hm hk hx hv
    refine ⟨ρ, undef, w', .skip, RX.refl _ _, ?_, rfl, VRel.U, hS⟩
    simp only [execOp, Sem.run_bind, hrun, Result.andThen_ok, Sem.run_pure]
theorem ok_nextStr {x : Operand} {X' : X} (hx : resX P x = some X') : OpOk R P (.next x true) (.nextStr X') := by
  intro w0 w ρ D σ ts ev v es od ty pos af gd h he hv
  simp only [opA] at hv
  split at hv
  case h_2 => cases hv
  rename_i i e1
  split at hv
  case h_2 => cases hv
  rename_i s p hg
  have hr := he _ _ hx; rw [e1] at hr; simp only [VRel] at hr
  obtain ⟨loc, hloc, hc⟩ := hr
  obtain ⟨hbm, hbase, bs, hh, rfl⟩ := h.blk _ _ _ hg hloc
  have hbs : (⟨bs.data.toList.toArray⟩ : ByteArray) = bs := by cases bs; simp
  rw [hbs] at hv
  have hc' : ev x = .pointer (some ⟨loc.blk, 0, none⟩) := by rw [hc, hbase]
  have hsz : bs.data.toList.length = bs.size := by simp
  rw [hsz] at hv
  split at hv
  · rename_i hlt
    injection hv with hv; injection hv with h2 h3; subst h2; subst h3
    have hS := h.setObj (b' := .iter bs.data.toList (p + (Utf8.decode bs p).2)) (o := .stringIter bs (p + (Utf8.decode bs p).2)) hg rfl hloc (by rw [hh]; simp) (fun r hr => by rw [hh] at hr; cases hr) hbm
      ⟨hbm, hbase, bs, by simp [Array.getElem?_setIfInBounds_self_of_lt (lt_of_some hh)], rfl⟩
    refine ⟨ρ, .tuple #[.bool true, goInt p, .int .i32 (Utf8.decode bs p).1], _, .value _, RX.refl _ _, ?_, rfl, VRel.tuple (.mk_cons VRel.bool (.mk_cons VRel.int (.mk_cons VRel.int .mk_nil))), hS⟩
    simp only [execOp, Instr.next, hc', Sem.run_bind, run_getObj hh (by intros; simp), Result.andThen_ok, hlt, if_true, run_setObj hh (by intros; simp), Sem.run_pure]
  · rename_i hlt
    injection hv with hv; injection hv with h2 h3; subst h2; subst h3
    refine .pure h (cv := .tuple #[.bool false]) ?_ (VRel.tuple (.mk_cons VRel.bool .mk_nil))
    simp only [execOp, Instr.next, hc', Sem.run_bind, run_getObj hh (by intros; simp), Result.andThen_ok, hlt, if_false, Sem.run_pure]
end Go.Am
namespace Go.Am
open Go.RowKit
variable {R : Code → AC → Prop} {P : Program}
theorem bind_some {α β : Type} {o : Option α} {f : α → Option β} {b : β} (h : o.bind f = some b) : ∃ a, o = some a ∧ f a = some b := Option.bind_eq_some_iff.1 h
theorem resXO_none {x : Option Operand} (h : resXO P x = some none) : x = none := by
  cases x with
  | none => rfl
  | some x => simp [resXO] at h
theorem builtin_sound {b : Builtin} {args : Array Operand} {ats : Array TypeId} {ao : AOp} (h : resBuiltin P b args.toList ats = some ao) : OpOk R P (.call { callee := .builtin b, args, argTypes := ats }) ao := by
  unfold resBuiltin at h
  split at h
  · rename_i x hl
    have ha : args = #[x] := by cases args; simp_all
    subst ha
    split at h
    · rename_i e1 e2; injection h with h; subst h
      obtain ⟨t, ht, hu⟩ := bind_some e1
      exact ok_len_str e2 ht hu
    · rename_i e1 e2; injection h with h; subst h
      obtain ⟨t, ht, hu⟩ := bind_some e1
      exact ok_len_slice e2 ht hu
    · rename_i e1 e2; injection h with h; subst h
      obtain ⟨t, ht, hu⟩ := bind_some e1
      exact ok_len_map e2 ht hu
    · rename_i e1 e2; injection h with h; subst h
      obtain ⟨t, ht, hu⟩ := bind_some e1
      exact ok_lenC e2 ht hu
    · cases h
  · rename_i x hl
    have ha : args = #[x] := by cases args; simp_all
    subst ha
    split at h
    · rename_i e1 e2; injection h with h; subst h
      obtain ⟨t, ht, hu⟩ := bind_some e1
      exact ok_cap e2 ht hu
    · cases h
  · rename_i s x hl
    have ha : args = #[s, x] := by cases args; simp_all
    subst ha
    split at h
    · rename_i e1 e2 e3
      split at h
      · rename_i hss
        split at h
        case h_2 => cases h
        rename_i i hi
        split at h
        case h_2 => cases h
        rename_i z hz
        split at h
        case isFalse => cases h
        rename_i hzs
        injection h with h; subst h
        obtain ⟨t, ht, hu⟩ := bind_some e1
        exact ok_append e2 e3 ht hu hss hi hz hzs
      · split at h
        case isFalse => cases h
        rename_i hss
        split at h
        case h_2 => cases h
        rename_i i hi
        split at h
        case h_2 => cases h
        rename_i z hz
        split at h
        case isFalse => cases h
        rename_i hzs
        split at h
        case h_2 => cases h
        rename_i zc hzc
        injection h with h; subst h
        obtain ⟨t, ht, hu⟩ := bind_some e1
        exact ok_appendZ e2 e3 ht hu hss hi hz hzs hzc
    · cases h
  · rename_i d s hl
    have ha : args = #[d, s] := by cases args; simp_all
    subst ha
    split at h
    · rename_i e1 e2 e3
      obtain ⟨n, hn, h⟩ := bind_some h
      injection h with h; subst h
      obtain ⟨t, ht, hu⟩ := bind_some e1
      exact ok_copy e2 e3 ht hu hn
    · cases h
  · rename_i l
    simp only [Option.map_eq_some_iff] at h
    obtain ⟨l', hl', rfl⟩ := h
    exact ok_max hl'
  · rename_i l
    simp only [Option.map_eq_some_iff] at h
    obtain ⟨l', hl', rfl⟩ := h
    exact ok_min hl'
  · cases h
theorem op_sound {o : Op} {ao : AOp} (h : resOp P o = some ao) : OpOk R P o ao := by
  unfold resOp at h
  split at h
  · simp only [Option.map_eq_some_iff] at h
    obtain ⟨X', hx, rfl⟩ := h; exact ok_mv hx
  · simp only [Option.map_eq_some_iff] at h
    obtain ⟨X', hx, rfl⟩ := h; exact ok_assign hx
  · split at h
    · rename_i e1 e2 e3; injection h with h; subst h; exact ok_pick e1 e2 e3
    · cases h
  · obtain ⟨z, hz, h⟩ := bind_some h
    obtain ⟨i, hi, hz⟩ := bind_some hz
    simp only [Option.map_eq_some_iff] at h
    obtain ⟨l, hl, rfl⟩ := h
    exact ok_alloc hi hz hl
  · simp only [Option.map_eq_some_iff] at h
    obtain ⟨X', hx, rfl⟩ := h; exact ok_box hx
  · exact ok_build h
  · exact ok_buildSlice h
  · split at h
    · rename_i e1 e2; injection h with h; subst h; exact ok_load e2 e1
    · cases h
  · split at h
    · rename_i e1 e2 e3; injection h with h; subst h; exact ok_store e2 e3 e1
    · cases h
  · split at h
    · rename_i fs x e1 e2
      split at h
      case h_2 => cases h
      rename_i fl hf
      split at h
      case h_2 => cases h
      rename_i n hn
      split at h
      · cases h
      · injection h with h; subst h; exact ok_fieldAddr e2 e1 hf hn ‹_›
    · cases h
  · split at h
    · rename_i fs x e1 e2
      split at h
      case h_2 => cases h
      rename_i fl hf
      split at h
      case h_2 => cases h
      rename_i k hk
      injection h with h; subst h; exact ok_field e2 e1 hf hk
    · cases h
  · unfold resIdxAddr at h
    split at h
    · rename_i e1 e2 e3
      obtain ⟨n, hn, h⟩ := bind_some h
      split at h
      · cases h
      · injection h with h; subst h; exact ok_idxS e2 e3 e1 hn
    · rename_i e1 e2 e3
      obtain ⟨n, hn, h⟩ := bind_some h
      injection h with h; subst h; exact ok_idxA e2 e3 e1 hn
    · cases h
  · unfold resIdx at h
    split at h
    · rename_i e1 e2 e3
      injection h with h; subst h; exact ok_idxStr e2 e3 e1
    · rename_i e1 e2 e3
      split at h
      · rename_i hn hk
        injection h with h; subst h; exact ok_idxArr e2 e3 e1 hn hk
      · cases h
    · cases h
  · unfold resBin at h
    split at h
    · rename_i e1 e2
      split at h
      · injection h with h; subst h; exact ok_bin e1 e2
      · split at h
        · simp only [Option.map_eq_some_iff] at h
          obtain ⟨k, hk, rfl⟩ := h
          exact ok_eqL e1 e2 hk rfl
        · simp only [Option.map_eq_some_iff] at h
          obtain ⟨k, hk, rfl⟩ := h
          exact ok_eqL e1 e2 hk rfl
        · cases h
    · cases h
  · simp only [Option.map_eq_some_iff] at h
    obtain ⟨X', hx, rfl⟩ := h; exact ok_un hx
  · unfold resConv at h
    split at h
    · rename_i e1 e2 e3; injection h with h; subst h; exact ok_conv e3 e1 e2
    · rename_i e1 e2 e3; injection h with h; subst h; exact ok_convStr e3 e1 e2
    · rename_i e1 e2 e3
      split at h
      · rename_i e4; injection h with h; subst h; exact ok_strBytes e3 e1 e2 e4
      · cases h
    · rename_i e1 e2 e3
      split at h
      · rename_i e4; injection h with h; subst h; exact ok_bytesStr e3 e1 e2 e4
      · cases h
    · rename_i e1 e2 e3; injection h with h; subst h; exact ok_intStr e3 e1 e2
    · cases h
  · split at h
    · cases h
    · rename_i d x e0 e1 e2; injection h with h; subst h
      exact ok_mkIface e2 e1 (fun m hm => e0 m (by rw [← hm]))
    · cases h
  · split at h
    · cases h
    · rename_i hy
      split at h
      · rename_i e1 e2; injection h with h; subst h; exact ok_mkFunc hy e1 e2
      · cases h
  · injection h with h; subst h; exact ok_mkMap
  · unfold resMkSlice at h
    split at h
    · rename_i e hu
      split at h
      · rename_i i l c e1 e2 e3
        split at h
        case h_2 => cases h
        rename_i z hz
        split at h
        case h_2 => cases h
        rename_i zc hzc
        split at h
        case isFalse => cases h
        rename_i hzs
        injection h with h; subst h
        exact ok_mkSlice e2 e3 hu e1 hz hzc hzs
      · cases h
    · cases h
  · unfold resSlice at h
    split at h
    · rename_i e1 e2 e3 e4 e5
      injection h with h; subst h
      have hmx := resXO_none e5
      subst hmx
      exact ok_sliceStr e2 e3 e4 e1
    · rename_i e1 e2 e3 e4 e5
      obtain ⟨n, hn, h⟩ := bind_some h
      injection h with h; subst h
      exact ok_sliceS e2 e3 e4 e5 e1 hn
    · rename_i e1 e2 e3 e4 e5
      obtain ⟨n, hn, h⟩ := bind_some h
      injection h with h; subst h
      exact ok_sliceA e2 e3 e4 e5 e1 hn
    · cases h
  · unfold resLookup at h
    split at h
    · rename_i hu
      split at h
      · rename_i e1 e2 e3 e4; injection h with h; subst h; exact ok_lookup hu e1 e2 e3 e4
      · cases h
    · cases h
  · unfold resMapSet at h
    split at h
    · rename_i hu
      split at h
      · rename_i e1 e2 e3 e4; injection h with h; subst h; exact (ok_mapUpdate hu e1 e2 e3 e4).1
      · cases h
    · cases h
  · unfold resMapSet at h
    split at h
    · rename_i hu
      split at h
      · rename_i e1 e2 e3 e4; injection h with h; subst h; exact (ok_mapUpdate hu e1 e2 e3 e4).2
      · cases h
    · cases h
  · split at h
    · rename_i e1 e2; injection h with h; subst h; exact ok_rangeStr e2 e1
    · cases h
  · simp only [Option.map_eq_some_iff] at h
    obtain ⟨X', hx, rfl⟩ := h; exact ok_nextStr hx
  · simp only [Option.map_eq_some_iff] at h
    obtain ⟨X', hx, rfl⟩ := h; exact ok_extract hx
  · simp only [Option.map_eq_some_iff] at h
    obtain ⟨X', hx, rfl⟩ := h; exact ok_nilCheck hx
  · split at h
    · cases h
    · rename_i d z x e0 e1 e2 e3; injection h with h; subst h
      exact ok_assertT e3 e1 (fun m hm => e0 m (by rw [← hm])) e2
    · cases h
  · exact builtin_sound h
  · cases h
theorem op_sound' {o : Op} : OpOk R P o ((resOp P o).getD .fail) := by
  cases h : resOp P o with
  | some ao => exact op_sound h
  | none =>
    intro w0 w ρ D σ ts ev v es od ty pos af gd _ _ hv
    simp [opA] at hv
end Go.Am
namespace Go.Am
open Go.RowKit
def Ret (P : Program) (fr0 : Frame) (w : World) (Rv : Value → World → Prop) : Prop :=
  ∀ (c : Frame) (cs : List Frame), ∃ v w', Rv v w' ∧ Steps P (lone fr0 (c :: cs) w) (lone (c.finish v) cs w')
def NextOut (P : Program) (Rv : Value → World → Prop) : Result Next → Prop
  | .ok (.value v) w' => Rv v w'
  | .ok (.enter f az) w' => Calls P f az w' fun e w'' => ∃ v, e = .returned v ∧ Rv v w''
  | .ok (.round l f tmps assign body) w' => Ret P (Frame.round l f tmps assign body .normal) w' Rv
  | _ => False
def InvokeOut (P : Program) (cf : Value) (cargs : Array Value) (w : World) (Rv : Value → World → Prop) : Prop :=
  ∃ d, (Deferred.ofValue cf cargs).run P w = .ok d w ∧ NextOut P Rv ((invoke d.target d.args).run P w)
theorem NextOut.mono {P : Program} {Rv Rv' : Value → World → Prop} {r : Result Next} (h : NextOut P Rv r) (k : ∀ v w, Rv v w → Rv' v w) : NextOut P Rv' r := by
  unfold NextOut at h ⊢
  split at h
  · exact k _ _ h
  · intro cs
    obtain ⟨e, w', fr, ⟨v, he, hr⟩, hrest⟩ := h cs
    exact ⟨e, w', fr, ⟨v, he, k _ _ hr⟩, hrest⟩
  · intro c cs
    obtain ⟨v, w', hr, hs⟩ := h c cs
    exact ⟨v, w', k _ _ hr, hs⟩
  · exact h.elim
abbrev St (Rs : Code → AC → Prop) (P : Program) := SRel Rs P
def After (Rs : Code → AC → Prop) (P : Program) (w0 : World) (n : Nat) (ρ : RMap) (D : List Nat × List Nat) (Q : AV → AState → Prop) (cv : Value) (w' : World) : Prop :=
  ∃ v ρ' σ', Q v σ' ∧ n ≤ σ'.next ∧ RX n ρ ρ' ∧ VRel ρ' v cv ∧ SRel Rs P w0 ρ' D σ' w'
def RunV (Rs : Code → AC → Prop) (P : Program) (fv : AV) (args : List AV) (σ : AState) (Q : AV → AState → Prop) : Prop :=
  ∀ w0 ρ D cf cargs w, VRel ρ fv cf → VRelL ρ args cargs.toList → SRel Rs P w0 ρ D σ w → InvokeOut P cf cargs w (After Rs P w0 σ.next ρ D Q)
theorem RunV.mono {Rs : Code → AC → Prop} {P : Program} {fv : AV} {args : List AV} {σ : AState} {Q Q' : AV → AState → Prop} (h : RunV Rs P fv args σ Q) (k : ∀ v σ', Q v σ' → Q' v σ') : RunV Rs P fv args σ Q' := by
  intro w0 ρ D cf cargs w hf ha hS
  obtain ⟨d, hd, hn⟩ := h w0 ρ D cf cargs w hf ha hS
  exact ⟨d, hd, hn.mono fun v w' ⟨v', ρ', σ', hq, hrest⟩ => ⟨v', ρ', σ', k _ _ hq, hrest⟩⟩
abbrev RunF (Rs : Code → AC → Prop) (P : Program) (f : Nat) (args : List AV) (σ : AState) (Q : AV → AState → Prop) : Prop := RunV Rs P (.func (.func f) [] []) args σ Q
section wp
variable (Rs : Code → AC → Prop) (P : Program)
def tabFind (t : TypeId) : List (TypeId × Nat) → Option Nat
  | [] => none
  | (u, f) :: r => if u = t then some f else tabFind t r
def againOk (g : Nat → Option ABlk) (next : Nat) (ts : List AV) (t : Nat) (o : AOp) : Prop :=
  match opA g next ts o with
  | some (v, []) => ts.getD t U = v
  | some (_, [.push b]) => match ts.getD t U with
    | .ptr (some (i, 0)) => g i = some b
    | .slice (some (i, 0)) _ _ _ => g i = some b
    | _ => False
  | _ => False
def wpIts : List It → List AV → AState → (List AV → AState → Prop) → Prop
  | [], ts, σ, K => K ts σ
  | .op d g o :: r, ts, σ, K =>
    if wants ts g then (match opA σ.get σ.next ts o with
      | some (v, es) => wpIts r (put d v ts) (σ.app es) K
      | none => False)
    else wpIts r (put d U ts) σ K
  | .call d g f args :: r, ts, σ, K =>
    if wants ts g then RunV Rs P (f.ev ts) (args.map (X.ev ts)) σ (fun v σ' => wpIts r (put d v ts) σ' K)
    else wpIts r (put d U ts) σ K
  | .inv d g tab x args :: r, ts, σ, K =>
    if wants ts g then (match x.ev ts with
      | .iface t v => match tabFind t tab with
        | some f => RunF Rs P f (v :: args.map (X.ev ts)) σ (fun v σ' => wpIts r (put d v ts) σ' K)
        | none => False
      | _ => False)
    else wpIts r (put d U ts) σ K
  | .again t g o :: r, ts, σ, K => (wants ts g = true → againOk σ.get σ.next ts t o) ∧ wpIts r ts σ K
def wpC : AC → List AV → AState → (Ex → List AV → AState → Prop) → Prop
  | .skip, ts, σ, Q => Q .normal ts σ
  | .its l, ts, σ, Q => wpIts Rs P l ts σ (Q .normal)
  | .seq a b, ts, σ, Q => wpC a ts σ (fun e ts σ => match e with
    | .normal => wpC b ts σ Q
    | .exit id => Q (.exit id) ts σ
    | .ret => Q .ret ts σ)
  | .cond x a b, ts, σ, Q => match x.ev ts with
    | .bool t => if t then wpC a ts σ Q else wpC b ts σ Q
    | _ => False
  | .block id b, ts, σ, Q => wpC b ts σ (fun e ts σ => match e with
    | .exit i => if i = id then Q .normal ts σ else Q (.exit i) ts σ
    | .normal => Q .normal ts σ
    | .ret => Q .ret ts σ)
  | .loop b, ts, σ, Q => ∀ X : List AV → AState → Prop, (∀ ts σ, wpC b ts σ (fun e ts' σ' => match e with
    | .normal => X ts' σ'
    | .exit id => Q (.exit id) ts' σ'
    | .ret => Q .ret ts' σ') → X ts σ) → X ts σ
  | .rangef x ps assign body, ts, σ, Q => RunV Rs P (x.ev ts) [.yieldf σ.next] (σ.push (.loop .ready none ts ps assign body)) (fun _ σ2 => match σ2.get σ.next with
    | some (.loop st pend _ _ _ _) => st ≠ .busy ∧ (match pend with
      | none => Q .normal ts (σ2.kill σ.next)
      | some e => Q e ts (σ2.kill σ.next))
    | _ => False)
  | .exit id, ts, σ, Q => Q (.exit id) ts σ
  | .ret, ts, σ, Q => Q .ret ts σ
  | .fail, _, _, _ => False
end wp
theorem wpIts_mono {Rs : Code → AC → Prop} {P : Program} : ∀ (l : List It) {ts : List AV} {σ : AState} {K K' : List AV → AState → Prop}, wpIts Rs P l ts σ K → (∀ ts σ, K ts σ → K' ts σ) → wpIts Rs P l ts σ K'
  | [], ts, σ, K, K', h, k => k _ _ h
  | .op d g o :: r, ts, σ, K, K', h, k => by
    simp only [wpIts] at h ⊢
    by_cases hw : wants ts g = true
    · simp only [hw, if_true] at h ⊢
      cases ho : opA σ.get σ.next ts o with
      | none => rw [ho] at h; exact h.elim
      | some p => rw [ho] at h; exact wpIts_mono r h k
    · simp only [hw, if_false, Bool.false_eq_true] at h ⊢
      exact wpIts_mono r h k
  | .call d g f args :: r, ts, σ, K, K', h, k => by
    simp only [wpIts] at h ⊢
    by_cases hw : wants ts g = true
    · simp only [hw, if_true] at h ⊢
      exact h.mono fun v σ' hh => wpIts_mono r hh k
    · simp only [hw, if_false, Bool.false_eq_true] at h ⊢
      exact wpIts_mono r h k
  | .inv d g tab x args :: r, ts, σ, K, K', h, k => by
    simp only [wpIts] at h ⊢
    by_cases hw : wants ts g = true
    · simp only [hw, if_true] at h ⊢
      cases hx : x.ev ts <;> rw [hx] at h <;> try exact h.elim
      rename_i t v
      cases hf : tabFind t tab with
      | none => simp only [hf] at h
      | some f => simp only [hf] at h ⊢; exact h.mono fun v σ' hh => wpIts_mono r hh k
    · simp only [hw, if_false, Bool.false_eq_true] at h ⊢
      exact wpIts_mono r h k
  | .again t g o :: r, ts, σ, K, K', h, k => ⟨h.1, wpIts_mono r h.2 k⟩
theorem wpC_mono {Rs : Code → AC → Prop} {P : Program} : ∀ (a : AC) {ts : List AV} {σ : AState} {Q Q' : Ex → List AV → AState → Prop}, wpC Rs P a ts σ Q → (∀ e ts σ, Q e ts σ → Q' e ts σ) → wpC Rs P a ts σ Q'
  | .skip, ts, σ, Q, Q', h, k => k _ _ _ h
  | .its l, ts, σ, Q, Q', h, k => wpIts_mono l h (k _)
  | .seq a b, ts, σ, Q, Q', h, k => wpC_mono a h fun e ts σ he => by
    cases e with
    | normal => exact wpC_mono b he k
    | exit id => exact k _ _ _ he
    | ret => exact k _ _ _ he
  | .cond x a b, ts, σ, Q, Q', h, k => by
    simp only [wpC] at h ⊢
    cases hx : x.ev ts <;> rw [hx] at h <;> try exact h.elim
    rename_i t
    cases t
    · exact wpC_mono b h k
    · exact wpC_mono a h k
  | .block id b, ts, σ, Q, Q', h, k => wpC_mono b h fun e ts σ he => by
    cases e with
    | normal => exact k _ _ _ he
    | exit i =>
      simp only at he ⊢
      by_cases hi : i = id
      · simp only [hi, if_true] at he ⊢; exact k _ _ _ he
      · simp only [hi, if_false] at he ⊢; exact k _ _ _ he
    | ret => exact k _ _ _ he
  | .loop b, ts, σ, Q, Q', h, k => fun X hX => h X fun ts σ hb => hX ts σ (wpC_mono b hb fun e ts' σ' he => by
      cases e with
      | normal => exact he
      | exit id => exact k _ _ _ he
      | ret => exact k _ _ _ he)
  | .rangef x ps assign body, ts, σ, Q, Q', h, k => h.mono fun v σ2 hh => by
    split at hh
    · refine ⟨hh.1, ?_⟩
      have h2 := hh.2
      split at h2
      · exact k _ _ _ h2
      · exact k _ _ _ h2
    · exact hh.elim
  | .exit id, ts, σ, Q, Q', h, k => k _ _ _ h
  | .ret, ts, σ, Q, Q', h, k => k _ _ _ h
  | .fail, _, _, _, _, h, _ => h.elim
theorem wp_loop {Rs : Code → AC → Prop} {P : Program} {b : AC} {ts : List AV} {σ : AState} {Q : Ex → List AV → AState → Prop} (I : List AV → AState → Nat → Prop) (n : Nat) (h0 : I ts σ n)
    (hr : ∀ n ts σ, I ts σ n → wpC Rs P b ts σ (fun e ts' σ' => match e with
      | .normal => ∃ m, m < n ∧ I ts' σ' m
      | .exit id => Q (.exit id) ts' σ'
      | .ret => Q .ret ts' σ')) : wpC Rs P (.loop b) ts σ Q := by
  intro X hX
  have key : ∀ n ts σ, I ts σ n → X ts σ := by
    intro n
    induction n using Nat.strongRecOn with
    | _ n ih =>
      intro ts σ hI
      refine hX ts σ (wpC_mono b (hr n ts σ hI) fun e ts' σ' he => ?_)
      cases e with
      | normal => obtain ⟨m, hm, hI'⟩ := he; exact ih m hm ts' σ' hI'
      | exit id => exact he
      | ret => exact he
  exact key n ts σ h0
theorem wp_unroll {Rs : Code → AC → Prop} {P : Program} {b : AC} {ts : List AV} {σ : AState} {Q : Ex → List AV → AState → Prop}
    (h : wpC Rs P b ts σ (fun e ts' σ' => match e with
      | .normal => wpC Rs P (.loop b) ts' σ' Q
      | .exit id => Q (.exit id) ts' σ'
      | .ret => Q .ret ts' σ')) : wpC Rs P (.loop b) ts σ Q := by
  intro X hX
  refine hX ts σ (wpC_mono b h fun e ts' σ' he => ?_)
  cases e with
  | normal => exact he X hX
  | exit id => exact he
  | ret => exact he
end Go.Am
namespace Go.Am
def usesA : AOp → List X
  | .mv x => [x]
  | .pick c a b => [c, a, b]
  | .alloc _ => []
  | .box x => [x]
  | .build _ parts | .buildSlice _ _ _ parts => parts.map fun p => p.2.2
  | .load _ x => [x]
  | .store _ a v => [a, v]
  | .fieldAddr _ x => [x]
  | .field _ _ x => [x]
  | .idxS _ x i => [x, i]
  | .idxA _ _ x i => [x, i]
  | .idxStr x i => [x, i]
  | .idxArr _ _ _ x i => [x, i]
  | .bin _ x y => [x, y]
  | .eq _ _ x y => [x, y]
  | .un _ x => [x]
  | .conv _ x | .convStr x | .strBytes x | .bytesStr x | .intStr x => [x]
  | .mkIface _ x => [x]
  | .mkFunc _ a b => a ++ b
  | .mkMap => []
  | .mkSlice _ _ _ l c => [l, c]
  | .sliceS _ x lo hi mx => x :: (lo.toList ++ hi.toList ++ mx.toList)
  | .sliceStr x lo hi => x :: (lo.toList ++ hi.toList)
  | .sliceA _ _ x lo hi mx => x :: (lo.toList ++ hi.toList ++ mx.toList)
  | .lookup _ _ _ x k => [x, k]
  | .mapSet _ m k v => [m, k, v]
  | .rangeStr x | .nextStr x => [x]
  | .extract _ x => [x]
  | .len _ x => [x]
  | .lenC _ => []
  | .cap x => [x]
  | .append _ _ s x => [s, x]
  | .appendZ _ _ _ s n => [s, n]
  | .copy _ d s => [d, s]
  | .max l | .min l => l
  | .nilCheck x => [x]
  | .assertT _ _ _ x => [x]
  | .fail => []
def aClass : AOp → Nat
  | .mv _ | .pick .. | .build .. | .fieldAddr .. | .field .. | .idxS .. | .idxA .. | .idxStr .. | .idxArr .. | .bin .. | .eq .. | .un .. | .conv .. | .convStr _ | .intStr _
  | .mkIface .. | .mkFunc .. | .sliceS .. | .sliceStr .. | .extract .. | .lenC _ | .cap _ | .max _ | .min _ | .nilCheck _ | .assertT .. => 0
  | .len .str _ | .len .slice _ => 0
  | .len .map _ | .load .. | .lookup .. | .bytesStr _ | .sliceA .. => 1
  | .alloc _ | .box _ | .buildSlice .. => 2
  | _ => 3
def xTmps : List X → List Nat
  | [] => []
  | .t i :: r => i :: xTmps r
  | _ :: r => xTmps r
def itClass : It → Nat
  | .op _ _ o => aClass o
  | _ => 3
def itUses : It → List X
  | .op _ _ o => usesA o
  | .call _ _ f args => f :: args
  | .inv _ _ _ x args => x :: args
  | .again _ _ o => usesA o
def itGuard : It → Option (Nat × Bool)
  | .op _ g _ | .call _ g _ _ | .inv _ g _ _ _ | .again _ g _ => g
def itDst : It → Option Nat
  | .op d _ _ | .call d _ _ _ | .inv d _ _ _ _ => d
  | .again .. => none
def opTmps (o : Oper) : List Nat := o.op.operands.toList.filterMap fun | .tmp t => some t | _ => none
structure Node where
  it : It
  cls : Nat
  uses : List Nat
  bef : Nat
  aft : List Nat
def nodeOf (it : It) (o : Oper) (bef : Nat) : Node :=
  { it, cls := match o.op with | .assign _ => 3 | _ => itClass it, uses := xTmps (itUses it) ++ opTmps o ++ (match itGuard it with | some (t, _) => [t] | none => []), bef
    aft := (o.after.toList.filter (Region.binds .any)).map (·.on) }
def nodes : List It → List Oper → List Nat → List Node
  | i :: r, o :: s, b :: t => nodeOf i o b :: nodes r s t
  | _, _, _ => []
def firstSome {α : Type} (f : Nat → Option α) : Nat → Nat → Option α
  | 0, _ => none
  | n + 1, i => match f i with
    | some a => some a
    | none => firstSome f n (i + 1)
def refGo (ns : List Node) : Nat → Nat → List Nat
  | 0, _ => []
  | fuel + 1, mask =>
    let ready (i : Nat) : Option Node := (ns[i]?).bind fun n => if mask.testBit i = false ∧ n.bef &&& mask = n.bef then some n else none
    match firstSome (fun i => (ready i).bind fun n => if n.cls = 3 then none else some i) ns.length 0 with
    | some i => i :: refGo ns fuel (mask ||| 2 ^ i)
    | none => match firstSome (fun i => (ready i).map fun _ => i) ns.length 0 with
      | some i => i :: refGo ns fuel (mask ||| 2 ^ i)
      | none => []
def chkR (ns : List Node) : List Nat → Nat → Option Nat → Bool
  | [], mask, _ => (List.range ns.length).all fun i => mask.testBit i
  | i :: r, mask, last => match ns[i]? with
    | none => false
    | some n => !mask.testBit i && (n.bef &&& mask == n.bef) && (match last with | none => true | some l => n.bef.testBit l) && chkR ns r (mask ||| 2 ^ i) (if n.cls = 3 then some i else last)
def chkH (ns : List Node) : Bool :=
  (List.range ns.length).all fun j => match ns[j]? with
    | none => true
    | some m => match itDst m.it with
      | none => m.cls == 3
      | some t => (m.cls == 3 || !m.uses.contains t) && (List.range ns.length).all fun i => i == j || (match ns[i]? with
        | none => true
        | some n => !(itDst n.it == some t) && (!n.uses.contains t || n.bef.testBit j || (m.cls == 3 && m.bef.testBit i)))
def befOf (ns : List Node) (e : Nat) : Nat := match ns[e]? with
  | some n => n.bef
  | none => 0
def chkB (ns : List Node) : Bool :=
  (List.range ns.length).all fun j => match ns[j]? with
    | none => true
    | some m => m.aft.all (fun e => decide (e < j)) && m.bef == m.aft.foldl (fun s e => s ||| 2 ^ e ||| befOf ns e) 0
def againOf (bef : Nat) (m : Nat × Node) : Option It := bif bef.testBit m.1 then none else match m.2.it with
  | .op (some d) g o => some (.again d g o)
  | _ => none
def emitR (ns : List Node) : List Nat → List (Nat × Node) → List It
  | [], _ => []
  | i :: r, fl => match ns[i]? with
    | none => []
    | some n =>
      n.it :: ((if n.cls = 3 then fl.filterMap (againOf n.bef) else []) ++ emitR ns r (if n.cls = 1 ∨ n.cls = 2 then (i, n) :: fl else fl))
def resDraw (P : Program) (ops : Array Oper) : Option (List It) :=
  match resIts P ops ops.toList with
  | none => none
  | some its =>
    let ns := nodes its ops.toList (Region.before ops).toList
    let r := refGo ns ns.length 0
    if ns.length = ops.size ∧ chkR ns r 0 none = true ∧ chkH ns = true ∧ chkB ns = true then some (emitR ns r []) else none
def resC (P : Program) : Code → Option AC
  | .skip => some .skip
  | .region _ ops false => (resIts P ops ops.toList).map .its
  | .region _ ops true => (resDraw P ops).map .its
  | .seq a b => match resC P a, resC P b with
    | some x, some y => some (.seq x y)
    | _, _ => none
  | .cond c a b => match resX P c, resC P a, resC P b with
    | some x, some y, some z => some (.cond x y z)
    | _, _, _ => none
  | .block id b => (resC P b).map (.block id)
  | .loop b => (resC P b).map .loop
  | .rangeFunc f ps a b => match resX P f, resC P a, resC P b with
    | some x, some y, some z => some (.rangef x ps.toList y z)
    | _, _, _ => none
  | .exit id => some (.exit id)
  | .ret => some .ret
  | _ => some .fail
end Go.Am
namespace Go.Am
open Go.RowKit
variable {Rs : Code → AC → Prop} {P : Program} {w0 w w' : World} {ρ ρ' : RMap} {D : List Nat × List Nat} {σ : AState}
theorem eff_next (σ : AState) (e : Eff) : σ.next ≤ (σ.eff e).next := by
  cases e with
  | push b => exact Nat.le_succ _
  | set i b => exact Nat.le_refl _
  | kill i => exact Nat.le_refl _
theorem app_next : ∀ (es : List Eff) (σ : AState), σ.next ≤ (σ.app es).next
  | [], _ => Nat.le_refl _
  | e :: r, σ => Nat.le_trans (eff_next σ e) (app_next r _)
theorem bool_of_rel {x : AV} {b : Bool} (h : VRel ρ x (.bool b)) : x = .bool b := by
  cases x with
  | bool c => simp only [VRel] at h; cases h; rfl
  | ptr o => cases o <;> simp [VRel] at h
  | map o => cases o <;> simp [VRel] at h
  | slice o l c s => cases o <;> simp [VRel, SlRel] at h
  | _ => simp [VRel] at h
theorem wants_eq {ops : Array Oper} {o : Oper} {g : Option (Nat × Bool)} {ts : List AV} {tm : Array Value} (hg : resGuard ops o.guard = some g) (hT : ∀ t b, g = some (t, b) → VRel ρ (ts.getD t U) (tm.getD t undef)) :
    Region.wanted o (yielded ops tm) = wants ts g := by
  unfold resGuard at hg
  split at hg
  · rename_i e
    injection hg with hg; subst hg
    simp [Region.wanted, e, wants]
  · rename_i j b e
    split at hg
    · rename_i t ht
      injection hg with hg; subst hg
      have hr := hT t b rfl
      simp only [Region.wanted, e, yielded, ht, Option.bind_some, wants]
      cases htm : tm[t]? with
      | none =>
        have : tm.getD t undef = undef := by simp [Array.getD_eq_getD_getElem?, htm]
        rw [this] at hr
        have hx : ∀ c, ts.getD t U ≠ .bool c := by
          intro c hc; rw [hc] at hr; simp [VRel, undef] at hr
        cases hts : ts.getD t U <;> simp_all
      | some v =>
        have : tm.getD t undef = v := by simp [Array.getD_eq_getD_getElem?, htm]
        rw [this] at hr
        cases v with
        | bool c =>
          rw [bool_of_rel hr]
          cases b <;> cases c <;> rfl
        | _ =>
          have hx : ∀ c, ts.getD t U ≠ .bool c := by
            intro c hc; rw [hc] at hr; simp [VRel] at hr
          cases hts : ts.getD t U <;> simp_all
    · cases hg
theorem resIt_parts {ops : Array Oper} {o : Oper} {it : It} (h : resIt P ops o = some it) : itDst it = o.dst ∧ resGuard ops o.guard = some (itGuard it) ∧
    ((∃ f args ats fx l, o.op = .call { callee := .value f, args, argTypes := ats } ∧ resX P f = some fx ∧ resXs P args.toList = some l ∧ it = .call o.dst (itGuard it) fx l) ∨
     (∃ x name args ats xx l, o.op = .call { callee := .invoke x name, args, argTypes := ats } ∧ resX P x = some xx ∧ resXs P args.toList = some l ∧ it = .inv o.dst (itGuard it) (methTab P name) xx l) ∨
     (∃ ao, it = .op o.dst (itGuard it) ao ∧ ao = (resOp P o.op).getD .fail)) := by
  unfold resIt at h
  split at h
  · cases h
  · rename_i g hg
    split at h
    · rename_i f args ats hop
      split at h
      · rename_i fx l e1 e2
        injection h with h; subst h
        exact ⟨rfl, hg, .inl ⟨_, _, _, _, _, hop, e1, e2, rfl⟩⟩
      · cases h
    · rename_i x name args ats hop
      split at h
      · rename_i xx l e1 e2
        injection h with h; subst h
        exact ⟨rfl, hg, .inr (.inl ⟨_, _, _, _, _, _, hop, e1, e2, rfl⟩)⟩
      · cases h
    · injection h with h; subst h
      exact ⟨rfl, hg, .inr (.inr ⟨_, rfl, rfl⟩)⟩
section steps
variable {b : Frame} {a : Act} {k : List Item} {cs : List Frame} {ops : Array Oper} {i : Nat} {rest : List Nat} {o : Oper}
theorem step_next {v : Value} {nx : Next} (ho : ops[i]? = some o) (hw : Region.wanted o (yielded ops a.tmps) = true) (hd : ∀ c, o.op ≠ .defer c) (hr : (execOp a.eval o).run P w = .ok nx w') (hv : valOf nx = some v) :
    step P (lone (b.atR a (.inRegion ops (i :: rest) :: k)) cs w) = .next (lone (b.atR (a.put o.dst v) (.inRegion ops rest :: k)) cs w') := by
  have hg := stepGR_op (P := P) (b := b) (k := k) (cs := cs) (w := w) (rest := rest) ho hw
  rw [Oper.semAt_eq _ _ _ hd] at hg
  have hfin : ∀ v, (b.atR a (.inRegion ops (i :: rest) :: k)).finish v = b.atR (a.put o.dst v) (.inRegion ops rest :: k) := by
    intro v; rw [Frame.finish_atR, ho]; rfl
  refine step_lone_go ?_
  rw [hg, ← hfin]
  cases nx <;> simp only [valOf, Option.some.injEq, reduceCtorEq] at hv
  · subst hv; simp [stepG.apply, hr]
  · subst hv; simp [stepG.apply, hr]
theorem step_enter {f : FuncId} {args : Array Value} (ho : ops[i]? = some o) (hw : Region.wanted o (yielded ops a.tmps) = true) (hd : ∀ c, o.op ≠ .defer c) (hr : (execOp a.eval o).run P w = .ok (.enter f args) w') :
    step P (lone (b.atR a (.inRegion ops (i :: rest) :: k)) cs w) = .next (lone (Frame.enter P f args .normal) (b.atR a (.inRegion ops (i :: rest) :: k) :: cs) w') := by
  have hg := stepGR_op (P := P) (b := b) (k := k) (cs := cs) (w := w) (rest := rest) ho hw
  rw [Oper.semAt_eq _ _ _ hd] at hg
  exact step_lone_go (by rw [hg]; simp [stepG.apply, hr, Frame.atR])
theorem step_round {l : Nat} {f : FuncId} {tmps : Array Value} {assign body : Code} (ho : ops[i]? = some o) (hw : Region.wanted o (yielded ops a.tmps) = true) (hd : ∀ c, o.op ≠ .defer c) (hr : (execOp a.eval o).run P w = .ok (.round l f tmps assign body) w') :
    step P (lone (b.atR a (.inRegion ops (i :: rest) :: k)) cs w) = .next (lone (Frame.round l f tmps assign body .normal) (b.atR a (.inRegion ops (i :: rest) :: k) :: cs) w') := by
  have hg := stepGR_op (P := P) (b := b) (k := k) (cs := cs) (w := w) (rest := rest) ho hw
  rw [Oper.semAt_eq _ _ _ hd] at hg
  exact step_lone_go (by rw [hg]; simp [stepG.apply, hr, Frame.atR])
theorem steps_call {Rv : Value → World → Prop} (ho : ops[i]? = some o) (hw : Region.wanted o (yielded ops a.tmps) = true) (hd : ∀ c, o.op ≠ .defer c) (hr : NextOut P Rv ((execOp a.eval o).run P w)) :
    ∃ v w', Rv v w' ∧ Steps P (lone (b.atR a (.inRegion ops (i :: rest) :: k)) cs w) (lone (b.atR (a.put o.dst v) (.inRegion ops rest :: k)) cs w') := by
  have hfin : ∀ v, (b.atR a (.inRegion ops (i :: rest) :: k)).finish v = b.atR (a.put o.dst v) (.inRegion ops rest :: k) := by
    intro v; rw [Frame.finish_atR, ho]; rfl
  unfold NextOut at hr
  split at hr
  · rename_i v w1 e
    exact ⟨v, w1, hr, .one (step_next ho hw hd e rfl)⟩
  · rename_i f az w1 e
    obtain ⟨en, w2, fr, ⟨v, rfl, hR⟩, hc, _, hl⟩ := hr (b.atR a (.inRegion ops (i :: rest) :: k) :: cs)
    refine ⟨v, w2, hR, .head (step_enter ho hw hd e) (Steps.trans hc (.one ?_))⟩
    rw [← hfin]; exact step_leave_returned hl
  · rename_i l f tmps assign body w1 e
    obtain ⟨v, w2, hR, hs⟩ := hr (b.atR a (.inRegion ops (i :: rest) :: k)) cs
    refine ⟨v, w2, hR, .head (step_round ho hw hd e) ?_⟩
    rw [← hfin]; exact hs
  · exact hr.elim
end steps
theorem tabFind_mem {t : TypeId} {f : Nat} : ∀ {l : List (TypeId × Nat)}, tabFind t l = some f → (t, f) ∈ l
  | [], h => by simp [tabFind] at h
  | (u, g) :: r, h => by
    simp only [tabFind] at h
    split at h
    · rename_i e; injection h with h; subst e; subst h; simp
    · exact List.mem_cons_of_mem _ (tabFind_mem h)
theorem methTab_ok {name : String} {t : TypeId} {f : Nat} (h : (t, f) ∈ methTab P name) (v : Value) (n : Nat) : (method (n + 1) t v name).run P w = .ok (f, v) w := by
  unfold methTab at h
  rw [List.mem_filterMap] at h
  obtain ⟨u, hu, h⟩ := h
  rw [List.mem_range] at hu
  split at h
  case h_2 => cases h
  rename_i i hi
  split at h
  case h_2 => cases h
  rename_i m hm
  have key : ∀ {t' : TypeId} {f' : Nat}, some (t', f') = some (t, f) → t' = t ∧ f' = f := by
    intro t' f' e; injection e with e; injection e with e1 e2; exact ⟨e1, e2⟩
  have hinfo : (typeInfo u).run P w = .ok i w := run_info hi
  split at h
  · cases h
  · rename_i f' d hpath hfunc hund
    obtain ⟨rfl, rfl⟩ := key h
    simp only [method, Sem.run_bind, hinfo, Result.andThen_ok, hm, hpath, follow, Sem.run_pure, hfunc, receiverAt, run_underlying hund, Place.get]
  · rename_i f' d e0 hpath hfunc hund
    obtain ⟨rfl, rfl⟩ := key h
    have hpath' : m.path.toList = [] := hpath
    simp only [method, Sem.run_bind, hinfo, Result.andThen_ok, hm, hpath', follow, Sem.run_pure, hfunc, receiverAt, run_underlying hund]
    cases d <;> first | (simp [Place.get]; done) | (exact (e0 _ rfl).elim)
  · cases h
def wpIt (Rs : Code → AC → Prop) (P : Program) : It → List AV → AState → (AV → AState → Prop) → Prop
  | .op _ g o, ts, σ, K =>
    if wants ts g then (match opA σ.get σ.next ts o with
      | some (v, es) => K v (σ.app es)
      | none => False)
    else K U σ
  | .call _ g f args, ts, σ, K => if wants ts g then RunV Rs P (f.ev ts) (args.map (X.ev ts)) σ K else K U σ
  | .inv _ g tab x args, ts, σ, K =>
    if wants ts g then (match x.ev ts with
      | .iface t v => match tabFind t tab with
        | some f => RunF Rs P f (v :: args.map (X.ev ts)) σ K
        | none => False
      | _ => False)
    else K U σ
  | .again t g o, ts, σ, K => (wants ts g = true → againOk σ.get σ.next ts t o) ∧ K U σ
theorem wpIts_cons {it : It} {r : List It} {ts : List AV} {K : List AV → AState → Prop} : wpIts Rs P (it :: r) ts σ K ↔ wpIt Rs P it ts σ (fun v σ' => wpIts Rs P r (put (itDst it) v ts) σ' K) := by
  cases it <;> exact Iff.rfl
theorem it_step1 {b : Frame} {a : Act} {k : List Item} {cs : List Frame} {ops : Array Oper} {i : Nat} {rest : List Nat} {o : Oper} {it : It} {ts : List AV} {K : AV → AState → Prop} {ev : Operand → Value}
    (ho : ops[i]? = some o) (hit : resIt P ops o = some it) (hE : EvRel P ρ ts ev) (hx : (∀ c d, o.op ≠ .select c d) → execOp a.eval o = execOp ev o) (hwq : Region.wanted o (yielded ops a.tmps) = wants ts (itGuard it))
    (hS : SRel Rs P w0 ρ D σ w) (hwp : wpIt Rs P it ts σ K) :
    ∃ v ρ' σ' cv w', K v σ' ∧ σ.next ≤ σ'.next ∧ RX σ.next ρ ρ' ∧ VRel ρ' v cv ∧ SRel Rs P w0 ρ' D σ' w' ∧
      Steps P (lone (b.atR a (.inRegion ops (i :: rest) :: k)) cs w) (lone (b.atR (a.put o.dst cv) (.inRegion ops rest :: k)) cs w') := by
  obtain ⟨hdst, hguard, hkind⟩ := resIt_parts hit
  by_cases hw : wants ts (itGuard it) = true
  · have hwt : Region.wanted o (yielded ops a.tmps) = true := by rw [hwq]; exact hw
    rcases hkind with ⟨f, args, ats, fx, l, hop, hfx, hl, hit'⟩ | ⟨x, name, args, ats, xx, l, hop, hxx, hl, hit'⟩ | ⟨ao, hit', hao⟩
    · rw [hit'] at hwp
      simp only [wpIt, hw, if_true] at hwp
      have hd : ∀ c, o.op ≠ .defer c := by intro c; rw [hop]; exact Op.noConfusion
      have hx := hx (by intro c d; rw [hop]; exact Op.noConfusion)
      obtain ⟨d, hd1, hn⟩ := hwp w0 ρ D (ev f) (args.map ev) w (hE _ _ hfx) (by simpa using resXs_rel hE hl) hS
      obtain ⟨cv, w', ⟨v, ρ', σ', hq, hnx, hrx, hvr, hS'⟩, hst⟩ := steps_call (P := P) (w := w) (b := b) (a := a) (k := k) (cs := cs) (rest := rest) ho hwt hd (by
        rw [hx]
        simp only [execOp, hop, resolve, Sem.run_bind, hd1, Result.andThen_ok]; exact hn)
      exact ⟨v, ρ', σ', cv, w', hq, hnx, hrx, hvr, hS', hst⟩
    · rw [hit'] at hwp
      simp only [wpIt, hw, if_true] at hwp
      have hd : ∀ c, o.op ≠ .defer c := by intro c; rw [hop]; exact Op.noConfusion
      have hx := hx (by intro c d; rw [hop]; exact Op.noConfusion)
      split at hwp
      case h_2 => exact hwp.elim
      rename_i t u hxu
      split at hwp
      case h_2 => exact hwp.elim
      rename_i f hf
      have hxr := hE _ _ hxx
      rw [hxu] at hxr; simp only [VRel] at hxr
      obtain ⟨y, hxe, hy⟩ := hxr
      obtain ⟨d, hd1, hn⟩ := hwp w0 ρ D (.func (.func f) #[] #[]) (#[y] ++ args.map ev) w (by simp [VRel, VRelL]) (by
        rw [Array.toList_append]; exact .mk_cons hy (by simpa using resXs_rel hE hl)) hS
      obtain ⟨cv, w', ⟨v, ρ', σ', hq, hnx, hrx, hvr, hS'⟩, hst⟩ := steps_call (P := P) (w := w) (b := b) (a := a) (k := k) (cs := cs) (rest := rest) ho hwt hd (by
        rw [hx]
        simp only [Deferred.ofValue, Sem.run_pure, Result.ok.injEq, and_true] at hd1
        subst hd1
        simp only [invoke] at hn
        simp only [execOp, hop, resolve, Sem.run_bind, Sem.run_pure, Result.andThen_ok, hxe, invoke]
        have e1 : (#[Value.iface t y] ++ Array.map ev args)[0]? = some (.iface t y) := by rw [Array.getElem?_append_left (by simp)]; rfl
        have e2 : (#[Value.iface t y] ++ Array.map ev args).extract 1 (#[Value.iface t y] ++ Array.map ev args).size = Array.map ev args := by
          apply Array.ext'
          simp
          rw [List.take_of_length_le (by simp)]
        simp only [e1, e2, callMethod, Sem.run_bind, run_program, Result.andThen_ok]
        have e3 : P.types.size + Made.depth = (P.types.size + (Made.depth - 1)) + 1 := by have : 0 < Made.depth := by decide
                                                                                          omega
        rw [e3, methTab_ok (tabFind_mem hf)]
        simp only [Result.andThen_ok]
        simpa using hn)
      exact ⟨v, ρ', σ', cv, w', hq, hnx, hrx, hvr, hS', hst⟩
    · rw [hit'] at hwp
      simp only [wpIt, hw, if_true] at hwp
      split at hwp
      case h_2 => exact hwp.elim
      rename_i v es hopA
      have hd : ∀ c, o.op ≠ .defer c := by
        intro c hc
        rw [hao, hc] at hopA
        simp [resOp, opA] at hopA
      have hx := hx (by
        intro c d hc
        rw [hao, hc] at hopA
        simp [resOp, opA] at hopA)
      obtain ⟨ρ', cv, w', nx, hrx, hrun, hval, hvr, hS'⟩ := (hao ▸ op_sound' (R := Rs) (P := P) (o := o.op)) w0 w ρ D σ ts ev v es o.dst o.type o.pos o.after o.guard hS hE hopA
      exact ⟨v, ρ', σ.app es, cv, w', hwp, app_next es σ, hrx, hvr, hS', .one (step_next ho hwt hd (by rw [hx]; exact hrun) hval)⟩
  · have hwf : wants ts (itGuard it) = false := by simpa using hw
    have hwt : Region.wanted o (yielded ops a.tmps) = false := by rw [hwq]; exact hwf
    have hst := stepR_op_skip (P := P) (b := b) (a := a) (k := k) (cs := cs) (w := w) (ops := ops) (i := i) (rest := rest) (by simp [ho, hwt])
    rw [ho] at hst
    refine ⟨U, ρ, σ, undef, w, ?_, Nat.le_refl _, RX.refl _ _, VRel.U, hS, .one hst⟩
    rcases hkind with ⟨f, args, ats, fx, l, hop, hfx, hl, hit'⟩ | ⟨x, name, args, ats, xx, l, hop, hxx, hl, hit'⟩ | ⟨ao, hit', hao⟩ <;>
    · rw [hit'] at hwp
      simpa only [wpIt, hwf, Bool.false_eq_true, if_false] using hwp
theorem it_step {b : Frame} {a : Act} {k : List Item} {cs : List Frame} {ops : Array Oper} {i : Nat} {rest : List Nat} {o : Oper} {it : It} {r : List It} {ts : List AV} {K : List AV → AState → Prop}
    (ho : ops[i]? = some o) (hit : resIt P ops o = some it) (hE : EvRel P ρ ts a.eval) (hG : ∀ t c, itGuard it = some (t, c) → VRel ρ (ts.getD t U) (a.tmps.getD t undef)) (hS : SRel Rs P w0 ρ D σ w) (hwp : wpIts Rs P (it :: r) ts σ K) :
    ∃ v ρ' σ' cv w', wpIts Rs P r (put o.dst v ts) σ' K ∧ σ.next ≤ σ'.next ∧ RX σ.next ρ ρ' ∧ VRel ρ' v cv ∧ SRel Rs P w0 ρ' D σ' w' ∧
      Steps P (lone (b.atR a (.inRegion ops (i :: rest) :: k)) cs w) (lone (b.atR (a.put o.dst cv) (.inRegion ops rest :: k)) cs w') := by
  obtain ⟨hdst, hguard, _⟩ := resIt_parts hit
  rw [← hdst]
  have := it_step1 (b := b) (k := k) (cs := cs) (rest := rest) ho hit hE (fun _ => rfl) (wants_eq (ρ := ρ) hguard hG) hS (wpIts_cons.1 hwp)
  rwa [hdst] at this ⊢
end Go.Am
namespace Go.Am
open Go.RowKit
variable {R : Code → AC → Prop} {P : Program} {w0 w w' : World} {ρ ρ' : RMap} {D : List Nat × List Nat} {σ : AState}
theorem evO_congr {ts ts' : List AV} {x : Option X} (h : ∀ y ∈ x.toList, y.ev ts = y.ev ts') : evO ts x = evO ts' x := by
  cases x with
  | none => rfl
  | some y => simp only [evO]; rw [h y (by simp)]
theorem map_ev_congr {ts ts' : List AV} {l : List X} (h : ∀ y ∈ l, y.ev ts = y.ev ts') : l.map (X.ev ts) = l.map (X.ev ts') := List.map_congr_left h
theorem parts_congr {ts ts' : List AV} {l : List (Nat × Nat × X)} (h : ∀ y ∈ l.map (fun p => p.2.2), y.ev ts = y.ev ts') : l.map (fun p => (p.1, p.2.1, p.2.2.ev ts)) = l.map (fun p => (p.1, p.2.1, p.2.2.ev ts')) :=
  List.map_congr_left fun p hp => by rw [h _ (List.mem_map_of_mem hp)]
theorem opA_congr {ts ts' : List AV} {o : AOp} {g : Nat → Option ABlk} {n : Nat} (h : ∀ x ∈ usesA o, x.ev ts = x.ev ts') : opA g n ts o = opA g n ts' o := by
  cases o with
  | build z parts => simp only [opA]; rw [parts_congr (fun y hy => h y (by simpa [usesA] using hy))]
  | buildSlice sz len z parts => simp only [opA]; rw [parts_congr (fun y hy => h y (by simpa [usesA] using hy))]
  | mkFunc fn a b => simp only [opA]; rw [map_ev_congr (fun y hy => h y (by simp [usesA, hy])), map_ev_congr (l := b) (fun y hy => h y (by simp [usesA, hy]))]
  | sliceS sz x lo hi mx => simp only [opA]; rw [h x (by simp [usesA]), evO_congr (x := lo) fun y hy => h y (by simp [usesA]; simp at hy; simp [hy]), evO_congr (x := hi) fun y hy => h y (by simp [usesA]; simp at hy; simp [hy]), evO_congr (x := mx) fun y hy => h y (by simp [usesA]; simp at hy; simp [hy])]
  | sliceStr x lo hi => simp only [opA]; rw [h x (by simp [usesA]), evO_congr (x := lo) fun y hy => h y (by simp [usesA]; simp at hy; simp [hy]), evO_congr (x := hi) fun y hy => h y (by simp [usesA]; simp at hy; simp [hy])]
  | sliceA n sz x lo hi mx => simp only [opA]; rw [h x (by simp [usesA]), evO_congr (x := lo) fun y hy => h y (by simp [usesA]; simp at hy; simp [hy]), evO_congr (x := hi) fun y hy => h y (by simp [usesA]; simp at hy; simp [hy]), evO_congr (x := mx) fun y hy => h y (by simp [usesA]; simp at hy; simp [hy])]
  | max l => simp only [opA]; rw [map_ev_congr (fun y hy => h y (by simpa [usesA] using hy))]
  | min l => simp only [opA]; rw [map_ev_congr (fun y hy => h y (by simpa [usesA] using hy))]
  | _ =>
    simp only [usesA, List.mem_cons, List.not_mem_nil, or_false, forall_eq_or_imp, forall_eq] at h
    simp only [opA, h]
theorem opA_pure {ts : List AV} {o : AOp} {g : Nat → Option ABlk} {n : Nat} {v : AV} {es : List Eff} (hc : aClass o ≤ 1) (h : opA g n ts o = some (v, es)) : es = [] := by
  cases o <;> simp only [aClass] at hc <;> try omega
  all_goals
    simp only [opA] at h
    first
      | (injection h with h; injection h with _ h; exact h.symm)
      | (repeat' split at h) <;> first | (injection h with h; injection h with _ h; exact h.symm) | cases h
theorem opA_get0 {ts : List AV} {o : AOp} {g g' : Nat → Option ABlk} {n n' : Nat} (hc : aClass o = 0) : opA g n ts o = opA g' n' ts o := by
  cases o with
  | len k x => cases k <;> first | (simp [aClass] at hc; done) | (cases hx : x.ev ts <;> simp only [opA, hx])
  | _ => first | rfl | (simp [aClass] at hc)
theorem firstA_mono {g g' : Nat → Option ABlk} (hg : ∀ i b, g i = some b → g' i = some b) {sz n : Nat} {x : AV} {l : List AV} (h : firstA g sz n x = some l) : firstA g' sz n x = some l := by
  unfold firstA at h ⊢
  split at h
  · exact h
  · split at h
    · rename_i e; simp only [hg _ _ e]; exact h
    · cases h
  · exact h
  · cases h
theorem opA_get1 {ts : List AV} {o : AOp} {g g' : Nat → Option ABlk} {n n' : Nat} {v : AV} (hc : aClass o ≤ 1) (hg : ∀ i b, g i = some b → g' i = some b) (h : opA g n ts o = some (v, [])) : opA g' n' ts o = some (v, []) := by
  by_cases h0 : aClass o = 0
  · rw [← opA_get0 (g := g) (n := n) h0]; exact h
  cases o with
  | load k x =>
    simp only [opA] at h ⊢
    split at h
    · split at h
      · rename_i e; simp only [hg _ _ e]; exact h
      · cases h
    · cases h
  | bytesStr x =>
    simp only [opA] at h ⊢
    split at h
    · split at h
      · rename_i e; simp only [firstA_mono hg e]; exact h
      · cases h
    · cases h
  | sliceA k sz x lo hi mx =>
    simp only [opA] at h ⊢
    split at h
    · split at h
      · rename_i e; simp only [hg _ _ e]; exact h
      · cases h
    · cases h
  | len k x =>
    cases k with
    | map =>
      simp only [opA] at h ⊢
      cases hx : x.ev ts <;> simp only [hx] at h ⊢ <;> try cases h
      rename_i o
      cases o with
      | none => exact h
      | some i =>
        simp only at h ⊢
        split at h
        · rename_i e; simp only [hg _ _ e]; exact h
        · cases h
    | _ => simp [aClass] at h0
  | lookup b ok z x k =>
    simp only [opA] at h ⊢
    cases hx : x.ev ts <;> simp only [hx] at h ⊢ <;> try cases h
    rename_i o
    cases o with
    | none => exact h
    | some i =>
      simp only at h ⊢
      cases hi : g i with
      | none => simp [hi] at h
      | some b =>
        simp only [hi] at h
        simp only [hg _ _ hi]
        exact h
  | _ => first | (simp [aClass] at h0; done) | (simp [aClass] at hc; done)
theorem opA_get2 {ts : List AV} {o : AOp} {g g' : Nat → Option ABlk} {n : Nat} (hc : aClass o = 2) : opA g n ts o = opA g' n ts o := by
  cases o with
  | len k x => cases k <;> simp [aClass] at hc
  | _ => first | rfl | (simp [aClass] at hc)
theorem opA_form2 {ts : List AV} {o : AOp} {g : Nat → Option ABlk} {n : Nat} {v : AV} {es : List Eff} (hc : aClass o = 2) (h : opA g n ts o = some (v, es)) : ∃ b, es = [.push b] ∧
    (∀ m, ∃ u, opA g m ts o = some (u, [.push b])) ∧ ((v = .ptr (some (n, 0))) ∨ ∃ l c s, v = .slice (some (n, 0)) l c s) := by
  cases o with
  | len k x => cases k <;> simp [aClass] at hc
  | alloc z => simp only [opA, Option.some.injEq, Prod.mk.injEq] at h ⊢; obtain ⟨rfl, rfl⟩ := h; exact ⟨_, rfl, fun m => ⟨_, rfl, rfl⟩, .inl rfl⟩
  | box x => simp only [opA, Option.some.injEq, Prod.mk.injEq] at h ⊢; obtain ⟨rfl, rfl⟩ := h; exact ⟨_, rfl, fun m => ⟨_, rfl, rfl⟩, .inl rfl⟩
  | buildSlice sz len z parts =>
    simp only [opA] at h ⊢
    split at h
    · rename_i l e
      simp only [Option.some.injEq, Prod.mk.injEq] at h
      obtain ⟨rfl, rfl⟩ := h
      exact ⟨_, rfl, fun m => ⟨_, rfl⟩, .inr ⟨_, _, _, rfl⟩⟩
    · cases h
  | _ => simp [aClass] at hc
def FreshOk (R : Code → AC → Prop) (P : Program) (o : Op) (ao : AOp) : Prop :=
  ∀ (w : World) (ρ : RMap) (ts : List AV) (ev : Operand → Value) (v : AV) (b : ABlk) (i : Nat) (g : Nat → Option ABlk) (od : Option Tmp) (ty : TypeId) (pos : String) (af : Array Edge) (gd : Option (Nat × Bool)),
    EvRel P ρ ts ev → ρ i = none → opA g i ts ao = some (v, [.push b]) →
    ∃ cv w' nx m, (execOp ev ⟨od, o, ty, pos, af, gd⟩).run P w = .ok nx w' ∧ valOf nx = some cv ∧ Below w.heap.size w w' ∧ w.heap.size ≤ m.blk ∧ m.blk < w'.heap.size ∧ VRel (upd ρ i m) v cv ∧ ∀ B, B ≤ w.heap.size → BRel R B (upd ρ i m) w' b m
theorem fr_box {t : TypeId} {x : Operand} {X' : X} (hx : resX P x = some X') : FreshOk R P (.box t x) (.box X') := by
  intro w ρ ts ev v b j g od ty pos af gd he hj hv
  simp only [opA] at hv
  injection hv with hv; injection hv with h2 h3; subst h2; injection h3 with h3; injection h3 with h3; subst h3
  have hr := (he _ _ hx).cells
  have hlen : (X.ev ts X').cells.length = (ev x).cells.size := by rw [hr.length]; simp
  refine ⟨.pointer (some ⟨w.heap.size, 0, none⟩), _, .value _, ⟨w.heap.size, 0, (ev x).cells.size⟩, ?_, rfl, below_push w (.cells (ev x).cells t), Nat.le_refl _, by simp, ?_, fun B hB => brel_new hB (VRelL.mono (upd_le hj) _ _ (by rw [hlen, ← Array.length_toList, List.take_length]; exact hr)) (by omega)⟩
  · simp only [execOp, Instr.box, newVar, Go.newRow, Sem.run_bind, run_newObj, Result.andThen_ok, Sem.run_pure]
  · simp only [VRel]; exact ⟨_, upd_same _ _ _, rfl⟩
theorem fr_alloc {e : TypeId} {i : TypeInfo} {z : Value} {l : List AV} (hi : P.info? e = some i) (hz : i.zero = some z) (hl : absL z.cells.toList = some l) : FreshOk R P (.alloc e) (.alloc l) := by
  intro w ρ ts ev v b j g od ty pos af gd he hj hv
  simp only [opA] at hv
  injection hv with hv; injection hv with h2 h3; subst h2; injection h3 with h3; injection h3 with h3; subst h3
  have hr := absL_rel (ρ := ρ) hl
  have hlen : l.length = z.cells.size := by rw [hr.length]; simp
  refine ⟨.pointer (some ⟨w.heap.size, 0, none⟩), _, .value _, ⟨w.heap.size, 0, z.cells.size⟩, ?_, rfl, below_push w (.cells z.cells e), Nat.le_refl _, by simp, ?_, fun B hB => brel_new hB (VRelL.mono (upd_le hj) _ _ (by rw [hlen, ← Array.length_toList, List.take_length]; exact hr)) (by omega)⟩
  · have hzero : (zeroValue e).run P w = .ok z w := by simp [zeroValue, run_info hi, hz]
    simp only [execOp, Instr.alloc, newVar, Go.newRow, Sem.run_bind, hzero, run_newObj, Result.andThen_ok, Sem.run_pure]
  · simp only [VRel]; exact ⟨_, upd_same _ _ _, rfl⟩
theorem fr_buildSlice {t : TypeId} {len : Nat} {parts : Array (Nat × Operand)} {ao : AOp} (hres : resBuildSlice P t len parts = some ao) : FreshOk R P (.buildSlice t len parts) ao := by
  intro w ρ ts ev v b j0 g od ty pos af gd he hj hv
  unfold resBuildSlice at hres
  split at hres
  · rename_i e hu
    split at hres
    · rename_i i hi
      split at hres
      · rename_i z hz
        split at hres
        · rename_i zc ps hzc hps
          split at hres
          · rename_i hc
            obtain ⟨hc1, hc2, hc3⟩ := hc
            injection hres with hres; subst hres
            simp only [opA] at hv
            split at hv
            · rename_i l hl
              injection hv with hv; injection hv with h2 h3; subst h2; injection h3 with h3; injection h3 with h3; subst h3
              have hsz : szOf P e = some i.size := by simp [szOf, hi]
              have hzero : (zeroValue e).run P w = .ok z w := by simp [zeroValue, run_info hi, hz]
              have hzr := zeros_rel (ρ := ρ) (absL_rel hzc) (by omega) len
              rw [hc2] at hzr
              obtain ⟨c', hfill, hr⟩ := fillA_ok (place := fun j => some (j * i.size, i.size)) (c := (Array.range (len * i.size)).map (z.cells[· % i.size]!)) hzr (placesA_ok he hps) hl
              have hlen : l.length = c'.size := by rw [hr.length]; simp
              have hparts : (parts.map fun (x : Nat × Operand) => (x.1, ev x.2)).toList = parts.toList.map fun p => (p.1, ev p.2) := by simp
              have hle : ¬ len * i.size > 2 ^ 24 := by omega
              have hlc : len * i.size ≤ c'.size := by
                have key : ∀ (ps : List (Nat × Nat × AV)) (l l' : List AV), fillA l ps = some l' → l'.length = l.length := by
                  intro ps
                  induction ps with
                  | nil => intro l l' e; simp only [fillA, Option.some.injEq] at e; rw [e]
                  | cons p ps ih =>
                    obtain ⟨o, s, v⟩ := p
                    intro l l' e
                    simp only [fillA] at e
                    split at e
                    · rename_i hcc
                      rw [ih _ _ e]; simp; omega
                    · cases e
                have := key _ _ _ hl
                have h1 : zc.length = i.size := by rw [(absL_rel (ρ := ρ) hzc).length]; simpa using hc2
                rw [← hlen, this]; simp [h1]
              refine ⟨.slice (some ⟨w.heap.size, 0, none⟩) len len, _, .value _, ⟨w.heap.size, 0, c'.size⟩, ?_, rfl, below_push w (.cells c' e), Nat.le_refl _, by simp, ?_, fun B hB => brel_new hB (VRelL.mono (upd_le hj) _ _ (by rw [hlen, ← Array.length_toList, List.take_length]; exact hr)) (by omega)⟩
              · by_cases h0 : len * i.size = 0
                · have hl0 : len = 0 := by
                    rcases Nat.mul_eq_zero.1 h0 with h | h
                    · exact h
                    · omega
                  subst hl0
                  simp only [execOp, Instr.buildSlice, Sem.run_bind, run_underlying hu, Result.andThen_ok, run_sizeOf_of hsz, h0, if_true, Sem.run_pure, hparts]
                  simp only [Nat.zero_mul] at hfill
                  simp only [Array.range_zero', Array.map_empty] at hfill ⊢
                  rw [if_neg (by omega)]
                  simp only [hfill, Go.newRow, Sem.run_bind, run_newObj, Result.andThen_ok, Sem.run_pure]
                · simp only [execOp, Instr.buildSlice, Sem.run_bind, run_underlying hu, Result.andThen_ok, run_sizeOf_of hsz, hle, if_false, h0, hzero, Sem.run_pure, hparts, hc2, hfill, Go.newRow, run_newObj]
              · simp only [VRel, SlRel]
                refine ⟨_, _, len, upd_same _ _ _, rfl, rfl, .inr ⟨rfl, rfl⟩, Nat.le_refl _, .inr ?_, fun c e => Option.some.inj e⟩
                simpa using hlc
            · cases hv
          · cases hres
        · cases hres
      · cases hres
    · cases hres
  · cases hres
theorem c_build {t : TypeId} {ps : Array (Nat × Operand)} {ao : AOp} (h : resBuild P t ps = some ao) : aClass ao ≠ 2 := by
  unfold resBuild at h
  (repeat' split at h) <;> first | cases h; done | (injection h with h; subst h; simp [aClass])
theorem c_idxAddr {t : TypeId} {x i : Operand} {ao : AOp} (h : resIdxAddr P t x i = some ao) : aClass ao ≠ 2 := by
  unfold resIdxAddr at h
  split at h
  · obtain ⟨n, _, h⟩ := bind_some h; split at h <;> first | cases h; done | (injection h with h; subst h; simp [aClass])
  · obtain ⟨n, _, h⟩ := bind_some h; injection h with h; subst h; simp [aClass]
  · cases h
theorem c_idx {t : TypeId} {x i : Operand} {ao : AOp} (h : resIdx P t x i = some ao) : aClass ao ≠ 2 := by
  unfold resIdx at h
  (repeat' split at h) <;> first | cases h; done | (injection h with h; subst h; simp [aClass])
theorem c_bin {op : BinOp} {t : TypeId} {x i : Operand} {ao : AOp} (h : resBin P op t x i = some ao) : aClass ao ≠ 2 := by
  unfold resBin at h
  (repeat' split at h) <;> first | cases h; done | (injection h with h; subst h; simp [aClass]; done) | (simp only [Option.map_eq_some_iff] at h; obtain ⟨_, _, rfl⟩ := h; simp [aClass])
theorem c_conv {t u : TypeId} {x : Operand} {ao : AOp} (h : resConv P t u x = some ao) : aClass ao ≠ 2 := by
  unfold resConv at h
  (repeat' split at h) <;> first | cases h; done | (injection h with h; subst h; simp [aClass])
theorem c_slice {t : TypeId} {x : Operand} {a b c : Option Operand} {ao : AOp} (h : resSlice P t x a b c = some ao) : aClass ao ≠ 2 := by
  unfold resSlice at h
  (repeat' split at h) <;> first | cases h; done | (injection h with h; subst h; simp [aClass]; done) | (obtain ⟨n, _, h⟩ := bind_some h; injection h with h; subst h; simp [aClass])
theorem c_mkSlice {t : TypeId} {x i : Operand} {ao : AOp} (h : resMkSlice P t x i = some ao) : aClass ao ≠ 2 := by
  unfold resMkSlice at h
  (repeat' split at h) <;> first | cases h; done | (injection h with h; subst h; simp [aClass])
theorem c_lookup {t : TypeId} {x i : Operand} {k : Bool} {ao : AOp} (h : resLookup P t x i k = some ao) : aClass ao ≠ 2 := by
  unfold resLookup at h
  (repeat' split at h) <;> first | cases h; done | (injection h with h; subst h; simp [aClass])
theorem c_mapSet {t : TypeId} {x i v : Operand} {ao : AOp} (h : resMapSet P t x i v = some ao) : aClass ao ≠ 2 := by
  unfold resMapSet at h
  (repeat' split at h) <;> first | cases h; done | (injection h with h; subst h; simp [aClass])
theorem c_builtin {b : Builtin} {args : List Operand} {ats : Array TypeId} {ao : AOp} (h : resBuiltin P b args ats = some ao) : aClass ao ≠ 2 := by
  unfold resBuiltin at h
  (repeat' split at h) <;> first | cases h; done | (injection h with h; subst h; simp [aClass]; done) | (obtain ⟨n, _, h⟩ := bind_some h; injection h with h; subst h; simp [aClass]; done) | (simp only [Option.map_eq_some_iff] at h; obtain ⟨_, _, rfl⟩ := h; simp [aClass])
theorem fresh_ok {o : Op} {ao : AOp} (h : resOp P o = some ao) (hc : aClass ao = 2) : FreshOk R P o ao := by
  unfold resOp at h
  split at h
  case h_4 =>
    obtain ⟨z, hz, h⟩ := bind_some h
    obtain ⟨i, hi, hz⟩ := bind_some hz
    simp only [Option.map_eq_some_iff] at h
    obtain ⟨l, hl, rfl⟩ := h
    exact fr_alloc hi hz hl
  case h_5 =>
    simp only [Option.map_eq_some_iff] at h
    obtain ⟨x, hx, rfl⟩ := h
    exact fr_box hx
  case h_7 => exact fr_buildSlice h
  all_goals first
    | exact absurd hc (c_build h)
    | exact absurd hc (c_idxAddr h)
    | exact absurd hc (c_idx h)
    | exact absurd hc (c_bin h)
    | exact absurd hc (c_conv h)
    | exact absurd hc (c_slice h)
    | exact absurd hc (c_mkSlice h)
    | exact absurd hc (c_lookup h)
    | exact absurd hc (c_mapSet h)
    | exact absurd hc (c_builtin h)
    | (cases h; done)
    | (simp only [Option.map_eq_some_iff] at h; obtain ⟨_, _, rfl⟩ := h; simp [aClass] at hc; done)
    | ((repeat' split at h) <;> first | cases h; done | (injection h with h; subst h; simp [aClass] at hc; done))
theorem fresh_ok' {o : Op} (hc : aClass ((resOp P o).getD .fail) = 2) : FreshOk R P o ((resOp P o).getD .fail) := by
  cases h : resOp P o with
  | some ao => rw [h] at hc; exact fresh_ok h hc
  | none => rw [h] at hc; simp [aClass] at hc
theorem SRel.reserve (h : SRel R P w0 ρ D σ w) (b : ABlk) : SRel R P w0 ρ D (σ.push b) w := by
  have hn := (h.dom _ (Nat.le_refl _)).1
  have key : ∀ {i : Nat} {c : ABlk} {l : Loc}, (σ.push b).get i = some c → ρ i = some l → σ.get i = some c := fun {i c l} e r => by
    rw [AState.push_get] at e
    split at e
    · rename_i hi; subst hi; rw [hn] at r; cases r
    · exact e
  exact {
    below := h.below
    dom := fun i hi => by
      have hi' : σ.next + 1 ≤ i := hi
      have := h.dom i (by omega)
      exact ⟨this.1, by rw [AState.push_get, if_neg (by omega)]; exact this.2⟩
    lt := h.lt
    blk := fun i c l e1 e2 => h.blk i c l (key e1 e2) e2
    sep := fun i j c d l m hij e1 e2 r1 r2 => h.sep i j c d l m hij (key e1 r1) (key e2 r2) r1 r2
    defs := h.defs
    nodup := h.nodup
    loops := h.loops
    glob := h.glob }
theorem SRel.realize (h : SRel R P w0 ρ D σ w) {i : Nat} {b : ABlk} {m : Loc} (hi : σ.get i = some b) (hρ : ρ i = none) (hlt : i < σ.next) (hw : Below w.heap.size w w') (hm : w.heap.size ≤ m.blk) (hml : m.blk < w'.heap.size)
    (hb : BRel R w0.heap.size (upd ρ i m) w' b m) : SRel R P w0 (upd ρ i m) D σ w' where
  below := h.below.trans (hw.mono h.below.size)
  dom j hj := by
    have hne : j ≠ i := by omega
    exact ⟨by rw [upd_ne _ _ hne]; exact (h.dom j hj).1, (h.dom j hj).2⟩
  lt j l e := by
    by_cases hj : j = i
    · subst hj; rw [upd_same] at e; cases e; exact hml
    · rw [upd_ne _ _ hj] at e; exact Nat.lt_of_lt_of_le (h.lt j l e) hw.size
  blk j c l e1 e2 := by
    by_cases hj : j = i
    · subst hj; rw [upd_same] at e2; cases e2
      rw [hi] at e1; cases e1; exact hb
    · rw [upd_ne _ _ hj] at e2
      exact (h.blk j c l e1 e2).keep (upd_le hρ) (hw.block _ (h.lt j l e2))
  sep j k b1 b2 l1 l2 hjk e1 e2 r1 r2 := by
    by_cases hj : j = i
    · subst hj
      rw [upd_same] at r1; cases r1
      rw [upd_ne _ _ (Ne.symm hjk)] at r2
      exact .inl (by have := h.lt k l2 r2; omega)
    · by_cases hk : k = i
      · subst hk
        rw [upd_same] at r2; cases r2
        rw [upd_ne _ _ hj] at r1
        exact .inl (by have := h.lt j l1 r1; omega)
      · rw [upd_ne _ _ hj] at r1; rw [upd_ne _ _ hk] at r2
        exact h.sep j k b1 b2 l1 l2 hjk e1 e2 r1 r2
  defs d hd := ⟨(h.defs d hd).1, by rw [hw.block _ (lt_of_some (h.defs d hd).2)]; exact (h.defs d hd).2⟩
  nodup := h.nodup
  loops d hd := by
    obtain ⟨h1, r, h2⟩ := h.loops d hd
    exact ⟨h1, r, by rw [hw.block _ (lt_of_some h2)]; exact h2⟩
  glob g hg := by
    obtain ⟨l, a, b⟩ := h.glob g hg
    exact ⟨l, upd_le hρ _ _ a, b⟩
end Go.Am
namespace Go.Am
open Go.RowKit
variable {R : Code → AC → Prop} {P : Program} {ops : Array Oper} {ns : List Node}
theorem nodes_get : ∀ {its : List It} {os : List Oper} {bs : List Nat} {i : Nat} {nd : Node}, (nodes its os bs)[i]? = some nd → ∃ it o b, its[i]? = some it ∧ os[i]? = some o ∧ nd = nodeOf it o b
  | [], os, bs, i, nd, h => by simp [nodes] at h
  | it :: r, [], bs, i, nd, h => by simp [nodes] at h
  | it :: r, o :: s, [], i, nd, h => by simp [nodes] at h
  | it :: r, o :: s, b :: t, 0, nd, h => by
    simp only [nodes, List.getElem?_cons_zero, Option.some.injEq] at h
    exact ⟨it, o, b, rfl, rfl, h.symm⟩
  | it :: r, o :: s, b :: t, i + 1, nd, h => by
    simp only [nodes, List.getElem?_cons_succ] at h ⊢
    exact nodes_get h
theorem resIts_get : ∀ {l : List Oper} {its : List It} {i : Nat} {it : It} {o : Oper}, resIts P ops l = some its → its[i]? = some it → l[i]? = some o → resIt P ops o = some it
  | [], its, i, it, o, _, _, h => by simp at h
  | o :: l, its, i, it, o', h, h1, h2 => by
    simp only [resIts] at h
    split at h
    case h_2 => cases h
    rename_i it0 r e1 e2
    injection h with h; subst h
    cases i with
    | zero =>
      simp only [List.getElem?_cons_zero, Option.some.injEq] at h1 h2
      subst h1; subst h2; exact e1
    | succ i =>
      simp only [List.getElem?_cons_succ] at h1 h2
      exact resIts_get e2 h1 h2
theorem xTmps_mem : ∀ {l : List X} {t : Nat}, X.t t ∈ l → t ∈ xTmps l
  | [], t, h => by simp at h
  | .t i :: r, t, h => by
    simp only [List.mem_cons, X.t.injEq] at h
    rcases h with h | h
    · subst h; simp [xTmps]
    · simp [xTmps, xTmps_mem h]
  | .c v :: r, t, h => by
    simp only [List.mem_cons, reduceCtorEq, false_or] at h
    simpa [xTmps] using xTmps_mem h
  | .g v :: r, t, h => by
    simp only [List.mem_cons, reduceCtorEq, false_or] at h
    simpa [xTmps] using xTmps_mem h
theorem fold_bits (ns : List Node) : ∀ (l : List Nat) (s j : Nat), (l.foldl (fun s e => s ||| 2 ^ e ||| befOf ns e) s).testBit j = true → s.testBit j = true ∨ ∃ e ∈ l, j = e ∨ (befOf ns e).testBit j = true
  | [], s, j, h => .inl h
  | e :: l, s, j, h => by
    rcases fold_bits ns l _ j h with h | ⟨e', he, h⟩
    · simp only [Nat.testBit_or, Bool.or_eq_true, Nat.testBit_two_pow, decide_eq_true_eq] at h
      rcases h with (h | h) | h
      · exact .inl h
      · exact .inr ⟨e, by simp, .inl h.symm⟩
      · exact .inr ⟨e, by simp, .inr h⟩
    · exact .inr ⟨e', by simp [he], h⟩
structure NodeOk (P : Program) (ops : Array Oper) (ns : List Node) : Prop where
  len : ns.length = ops.size
  node : ∀ (i : Nat) (nd : Node), ns[i]? = some nd → ∃ o, ops[i]? = some o ∧ resIt P ops o = some nd.it ∧ (nd.cls = 3 ∨ nd.cls = itClass nd.it) ∧ (∀ t, X.t t ∈ itUses nd.it → t ∈ nd.uses) ∧ (∀ t, Operand.tmp t ∈ o.op.operands → t ∈ nd.uses) ∧
    (∀ t b, itGuard nd.it = some (t, b) → t ∈ nd.uses) ∧ nd.aft = (o.after.toList.filter (Region.binds .any)).map (·.on)
  back : ∀ (i : Nat) (nd : Node) (e : Nat), ns[i]? = some nd → e ∈ nd.aft → e < i
  bef : ∀ (i : Nat) (nd : Node) (j : Nat), ns[i]? = some nd → nd.bef.testBit j = true → ∃ e ∈ nd.aft, j = e ∨ (befOf ns e).testBit j = true
  hand : ∀ (j : Nat) (m : Node) (t : Nat), ns[j]? = some m → itDst m.it = some t → (m.cls = 3 ∨ t ∉ m.uses) ∧ ∀ (i : Nat) (n : Node), ns[i]? = some n → i ≠ j → itDst n.it ≠ some t ∧ (t ∉ n.uses ∨ n.bef.testBit j = true ∨ (m.cls = 3 ∧ m.bef.testBit i = true))
  dst : ∀ (j : Nat) (m : Node), ns[j]? = some m → itDst m.it = none → m.cls = 3
theorem nodeOk {its : List It} {bs : List Nat} (hits : resIts P ops ops.toList = some its) (hns : ns = nodes its ops.toList bs) (hlen : ns.length = ops.size) (hH : chkH ns = true) (hB : chkB ns = true) : NodeOk P ops ns where
  len := hlen
  node i nd h := by
    subst hns
    obtain ⟨it, o, b, h1, h2, rfl⟩ := nodes_get h
    have h2' : ops[i]? = some o := by simpa using h2
    refine ⟨o, h2', resIts_get hits h1 h2, ?_, ?_, ?_, ?_, rfl⟩
    · simp only [nodeOf]
      cases o.op <;> simp
    · intro t ht
      simp only [nodeOf, List.mem_append]
      exact .inl (.inl (xTmps_mem ht))
    · intro t ht
      simp only [nodeOf, List.mem_append]
      refine .inl (.inr ?_)
      unfold opTmps
      exact List.mem_filterMap.2 ⟨.tmp t, by simpa using ht, rfl⟩
    · intro t b hg
      have hg' : itGuard it = some (t, b) := hg
      simp only [nodeOf, List.mem_append, hg']
      exact .inr (by simp)
  back i nd e h he := by
    unfold chkB at hB
    rw [List.all_eq_true] at hB
    have := hB i (List.mem_range.2 (List.getElem?_eq_some_iff.1 h).1)
    simp only [h, Bool.and_eq_true, List.all_eq_true, decide_eq_true_eq] at this
    exact this.1 e he
  bef i nd j h hj := by
    unfold chkB at hB
    rw [List.all_eq_true] at hB
    have := hB i (List.mem_range.2 (List.getElem?_eq_some_iff.1 h).1)
    simp only [h, Bool.and_eq_true, beq_iff_eq] at this
    rw [this.2] at hj
    rcases fold_bits ns _ _ _ hj with h0 | h0
    · simp at h0
    · exact h0
  hand j m t h ht := by
    unfold chkH at hH
    rw [List.all_eq_true] at hH
    have := hH j (List.mem_range.2 (List.getElem?_eq_some_iff.1 h).1)
    simp only [h, ht, Bool.and_eq_true, Bool.or_eq_true, beq_iff_eq, Bool.not_eq_true', List.all_eq_true] at this
    refine ⟨by simpa using this.1, fun i n hi hne => ?_⟩
    have h2 := this.2 i (List.mem_range.2 (List.getElem?_eq_some_iff.1 hi).1)
    rcases h2 with h2 | h2
    · exact absurd h2 hne
    · simp only [hi, Bool.and_eq_true, Bool.or_eq_true, Bool.not_eq_true', beq_iff_eq] at h2
      refine ⟨by simpa using h2.1, ?_⟩
      rcases h2.2 with (h3 | h3) | h3
      · exact .inl (by simpa using h3)
      · exact .inr (.inl h3)
      · exact .inr (.inr h3)
  dst j m h ht := by
    unfold chkH at hH
    rw [List.all_eq_true] at hH
    have := hH j (List.mem_range.2 (List.getElem?_eq_some_iff.1 h).1)
    simpa only [h, ht, beq_iff_eq] using this
theorem aClass_le (o : AOp) : aClass o ≤ 3 := by
  cases o with
  | len k x => cases k <;> simp [aClass]
  | _ => simp [aClass]
theorem NodeOk.quiet (h : NodeOk P ops ns) {i : Nat} {nd : Node} (hi : ns[i]? = some nd) (hc : nd.cls ≠ 3) : ∃ d g o, nd.it = .op (some d) g o ∧ aClass o = nd.cls ∧ aClass o ≤ 2 := by
  obtain ⟨o, _, _, hcl, _⟩ := h.node i nd hi
  have hcl := hcl.resolve_left hc
  cases hit : nd.it with
  | op d g o =>
    rw [hit] at hcl
    simp only [itClass] at hcl
    cases d with
    | none => exact absurd (h.dst i nd hi (by rw [hit]; rfl)) hc
    | some d => exact ⟨d, g, o, rfl, hcl.symm, by have := aClass_le o; omega⟩
  | _ => rw [hit] at hcl; simp only [itClass] at hcl; exact absurd hcl hc
theorem tb (m y i : Nat) : (m ||| 2 ^ y).testBit i = true ↔ m.testBit i = true ∨ i = y := by
  rw [Nat.testBit_or, Bool.or_eq_true, Nat.testBit_two_pow, decide_eq_true_eq]
  constructor <;> rintro (h | h) <;> simp [h]
theorem sub_mask {b m : Nat} (h : (b &&& m == b) = true) {j : Nat} (hj : b.testBit j = true) : m.testBit j = true := by
  have e : b &&& m = b := by simpa using h
  rw [← e, Nat.testBit_and, Bool.and_eq_true] at hj
  exact hj.2
theorem chkR_cons {y : Nat} {Rr : List Nat} {mask : Nat} {last : Option Nat} (h : chkR ns (y :: Rr) mask last = true) : ∃ nd, ns[y]? = some nd ∧ mask.testBit y = false ∧ (∀ j, nd.bef.testBit j = true → mask.testBit j = true) ∧
    (∀ l, last = some l → nd.bef.testBit l = true) ∧ chkR ns Rr (mask ||| 2 ^ y) (if nd.cls = 3 then some y else last) = true := by
  simp only [chkR] at h
  cases hy : ns[y]? with
  | none => simp [hy] at h
  | some nd =>
    simp only [hy, Bool.and_eq_true, Bool.not_eq_true'] at h
    obtain ⟨⟨⟨h1, h2⟩, h3⟩, h4⟩ := h
    refine ⟨nd, rfl, h1, fun j hj => sub_mask h2 hj, fun l e => ?_, h4⟩
    subst e; exact h3
theorem chkR_done : ∀ {Rr : List Nat} {mask : Nat} {last : Option Nat}, chkR ns Rr mask last = true → ∀ i, i < ns.length → mask.testBit i = true ∨ i ∈ Rr
  | [], mask, last, h, i, hi => by
    simp only [chkR, List.all_eq_true] at h
    exact .inl (h i (List.mem_range.2 hi))
  | y :: Rr, mask, last, h, i, hi => by
    obtain ⟨nd, _, _, _, _, h4⟩ := chkR_cons h
    rcases chkR_done h4 i hi with h5 | h5
    · rcases (tb _ _ _).1 h5 with h5 | h5
      · exact .inl h5
      · exact .inr (by simp [h5])
    · exact .inr (by simp [h5])
theorem chkR_last : ∀ {Rr : List Nat} {mask l x : Nat} {nd : Node}, chkR ns Rr mask (some l) = true → x ∈ Rr → ns[x]? = some nd → ∃ l', nd.bef.testBit l' = true ∧ (l' = l ∨ mask.testBit l' = false)
  | [], mask, l, x, nd, h, hx, hn => by simp at hx
  | y :: Rr, mask, l, x, nd, h, hx, hn => by
    obtain ⟨nd', h0, h1, h2, h3, h4⟩ := chkR_cons h
    by_cases e : x = y
    · subst e
      rw [hn] at h0; cases h0
      exact ⟨l, h3 l rfl, .inl rfl⟩
    · have hx' : x ∈ Rr := by simpa [e] using hx
      by_cases hc : nd'.cls = 3
      · rw [if_pos hc] at h4
        obtain ⟨l', a, b⟩ := chkR_last h4 hx' hn
        refine ⟨l', a, .inr ?_⟩
        rcases b with b | b
        · subst b; exact h1
        · cases hm : mask.testBit l'
          · rfl
          · rw [(tb mask y l').2 (.inl hm)] at b; cases b
      · rw [if_neg hc] at h4
        obtain ⟨l', a, b⟩ := chkR_last h4 hx' hn
        refine ⟨l', a, ?_⟩
        rcases b with b | b
        · exact .inl b
        · right
          cases hm : mask.testBit l'
          · rfl
          · rw [(tb mask y l').2 (.inl hm)] at b; cases b
theorem chkR_loud {y x mask : Nat} {Rr : List Nat} {last : Option Nat} {ny nx : Node} (h : chkR ns (y :: Rr) mask last = true) (hy : ns[y]? = some ny) (hc : ny.cls = 3) (hx : x ∈ Rr) (hn : ns[x]? = some nx) :
    ∃ l, nx.bef.testBit l = true ∧ mask.testBit l = false := by
  obtain ⟨nd', h0, h1, h2, h3, h4⟩ := chkR_cons h
  rw [hy] at h0; cases h0
  rw [if_pos hc] at h4
  obtain ⟨l', a, b⟩ := chkR_last h4 hx hn
  refine ⟨l', a, ?_⟩
  rcases b with b | b
  · subst b; exact h1
  · cases hm : mask.testBit l'
    · rfl
    · rw [(tb mask y l').2 (.inl hm)] at b; cases b
theorem emitR_cons {y : Nat} {Rr : List Nat} {fl : List (Nat × Node)} {nd : Node} (h : ns[y]? = some nd) : emitR ns (y :: Rr) fl = nd.it :: ((if nd.cls = 3 then fl.filterMap (againOf nd.bef) else []) ++ emitR ns Rr (if nd.cls = 1 ∨ nd.cls = 2 then (y, nd) :: fl else fl)) := by
  simp only [emitR, h]
end Go.Am
namespace Go.Am
open Go.RowKit
variable {Rs : Code → AC → Prop} {P : Program} {w0 w w' : World} {ρ ρ' ρ0 : RMap} {D : List Nat × List Nat} {σ σ' : AState} {ops : Array Oper} {ns : List Node} {n0 : Nat} {ts ts' : List AV} {tm : Array Value} {K : List AV → AState → Prop}
def Pend (n0 : Nat) (ρ : RMap) (σ : AState) (ts : List AV) (a : Nat) (it : It) : Prop :=
  ∃ d g o v, it = .op (some d) g o ∧ (d < ts.length → ts.getD d U = v) ∧
    ((wants ts g = false ∧ v = U) ∨ (wants ts g = true ∧ aClass o ≤ 1 ∧ opA σ.get σ.next ts o = some (v, [])) ∨
     (wants ts g = true ∧ aClass o = 2 ∧ ∃ b, opA σ.get a ts o = some (v, [.push b]) ∧ σ.get a = some b ∧ ρ a = none ∧ n0 ≤ a ∧ a < σ.next))
def Agree (it : It) (ts ts' : List AV) : Prop := (∀ x ∈ itUses it, x.ev ts = x.ev ts') ∧ wants ts (itGuard it) = wants ts' (itGuard it)
theorem agree_of {it : It} {l : List Nat} (h1 : ∀ t, X.t t ∈ itUses it → t ∈ l) (h2 : ∀ t b, itGuard it = some (t, b) → t ∈ l) (h : ∀ t ∈ l, ts.getD t U = ts'.getD t U) : Agree it ts ts' := by
  refine ⟨fun x hx => ?_, ?_⟩
  · cases x with
    | t i => exact h i (h1 i hx)
    | c v => rfl
    | g i => rfl
  · cases hg : itGuard it with
    | none => rfl
    | some p => obtain ⟨t, b⟩ := p; simp only [wants, h t (h2 t b hg)]
theorem set_getD_ne {d t : Nat} (v : AV) (h : t ≠ d) : (ts.set d v).getD t U = ts.getD t U := by
  simp [List.getD, List.getElem?_set_ne (Ne.symm h)]
theorem put_getD_ne {d : Option Nat} {t : Nat} (v : AV) (h : d ≠ some t) : (put d v ts).getD t U = ts.getD t U := by
  cases d with
  | none => rfl
  | some d => exact set_getD_ne v (fun e => h (by rw [e]))
theorem put_length (d : Option Nat) (v : AV) : (put d v ts).length = ts.length := by cases d <;> simp [put]
theorem wpIt_congr {it : It} {K : AV → AState → Prop} (hn : ∀ t g o, it ≠ .again t g o) (h : Agree it ts ts') (hw : wpIt Rs P it ts σ K) : wpIt Rs P it ts' σ K := by
  obtain ⟨h1, h2⟩ := h
  cases it with
  | again t g o => exact absurd rfl (hn t g o)
  | op d g o =>
    simp only [itGuard] at h2
    simp only [wpIt] at hw ⊢
    rw [← h2, ← opA_congr h1]; exact hw
  | call d g f args =>
    simp only [itGuard] at h2
    simp only [wpIt] at hw ⊢
    rw [← h2, ← h1 f (by simp [itUses]), ← map_ev_congr fun y hy => h1 y (by simp [itUses, hy])]; exact hw
  | inv d g tab x args =>
    simp only [itGuard] at h2
    simp only [wpIt] at hw ⊢
    rw [← h2, ← h1 x (by simp [itUses]), ← map_ev_congr fun y hy => h1 y (by simp [itUses, hy])]; exact hw
theorem Pend.keep {a : Nat} {it : It} (h : Pend n0 ρ σ ts a it) (hA : Agree it ts ts') (hl : ts'.length = ts.length) (hd : ∀ d, itDst it = some d → ts'.getD d U = ts.getD d U) (hg : ∀ i b, σ.get i = some b → σ'.get i = some b) (hn : σ.next ≤ σ'.next)
    (hρ : (∃ d g o, it = .op d g o ∧ aClass o = 2 ∧ wants ts g = true) → a < σ.next → ρ a = none → ρ' a = none) : Pend n0 ρ' σ' ts' a it := by
  obtain ⟨d, g, o, v, rfl, h1, h2⟩ := h
  obtain ⟨hu, hw⟩ := hA
  simp only [itGuard] at hw
  refine ⟨d, g, o, v, rfl, fun e => by rw [hd d rfl]; exact h1 (by omega), ?_⟩
  rcases h2 with ⟨a1, a2⟩ | ⟨a1, a2, a3⟩ | ⟨a1, a2, b, a3, a4, a5, a6, a7⟩
  · exact .inl ⟨by rw [← hw]; exact a1, a2⟩
  · exact .inr (.inl ⟨by rw [← hw]; exact a1, a2, opA_get1 a2 hg (by rw [← opA_congr hu]; exact a3)⟩)
  · exact .inr (.inr ⟨by rw [← hw]; exact a1, a2, b, by rw [← opA_congr hu, ← opA_get2 (g := σ.get) a2]; exact a3, hg _ _ a4, hρ ⟨_, _, _, rfl, a2, a1⟩ a7 a5, a6, by omega⟩)
def PT (ns : List Node) (mask : Nat) (listed : Array Bool) (t : Nat) : Prop := ∃ i nd, ns[i]? = some nd ∧ mask.testBit i = true ∧ listed.getD i false = false ∧ itDst nd.it = some t
structure Inv (Rs : Code → AC → Prop) (P : Program) (w0 : World) (D : List Nat × List Nat) (K : List AV → AState → Prop) (ops : Array Oper) (ns : List Node) (n0 : Nat) (ρ0 : RMap)
    (R2 : List Nat) (mask : Nat) (last : Option Nat) (fl : List (Nat × Node)) (listed : Array Bool) (al : Nat → Nat) (ts : List AV) (tm : Array Value) (σ : AState) (ρ : RMap) (w : World) : Prop where
  chk : chkR ns R2 mask last = true
  mlt : ∀ i : Nat, mask.testBit i = true → i < ns.length
  mdown : ∀ (i : Nat) (nd : Node) (j : Nat), ns[i]? = some nd → mask.testBit i = true → nd.bef.testBit j = true → mask.testBit j = true
  lsz : listed.size = ops.size
  sub : ∀ i : Nat, listed.getD i false = true → mask.testBit i = true
  down : ∀ (i : Nat) (nd : Node) (j : Nat), ns[i]? = some nd → listed.getD i false = true → nd.bef.testBit j = true → listed.getD j false = true
  loud : ∀ (i : Nat) (nd : Node), ns[i]? = some nd → mask.testBit i = true → nd.cls = 3 → listed.getD i false = true
  flo : ∀ (i : Nat) (nd : Node), ns[i]? = some nd → mask.testBit i = true → nd.cls = 1 ∨ nd.cls = 2 → (i, nd) ∈ fl
  len : ts.length = tm.size
  rel : ∀ t, ¬ PT ns mask listed t → VRel ρ (ts.getD t U) (tm.getD t undef)
  srel : SRel Rs P w0 ρ D σ w
  pend : ∀ (i : Nat) (nd : Node), ns[i]? = some nd → mask.testBit i = true → listed.getD i false = false → Pend n0 ρ σ ts (al i) nd.it
  dist : ∀ (i j : Nat) (ni nj : Node), ns[i]? = some ni → ns[j]? = some nj → i ≠ j → mask.testBit i = true → mask.testBit j = true → listed.getD i false = false → listed.getD j false = false →
    ni.cls = 2 → nj.cls = 2 → wants ts (itGuard ni.it) = true → wants ts (itGuard nj.it) = true → al i ≠ al j
  n0le : n0 ≤ σ.next
  rx : RX n0 ρ0 ρ
  wp : wpIts Rs P (emitR ns R2 fl) ts σ K
section inv
variable {R2 : List Nat} {mask : Nat} {last : Option Nat} {fl : List (Nat × Node)} {listed : Array Bool} {al : Nat → Nat}
theorem NodeOk.agree (hN : NodeOk P ops ns) {i y : Nat} {ni ny : Node} (hi : ns[i]? = some ni) (hy : ns[y]? = some ny) (hne : i ≠ y) (h1 : ni.bef.testBit y = false) (h2 : ny.cls = 3 → ny.bef.testBit i = false) (v : AV) :
    Agree ni.it ts (put (itDst ny.it) v ts) ∧ (∀ d, itDst ni.it = some d → (put (itDst ny.it) v ts).getD d U = ts.getD d U) := by
  obtain ⟨o, _, _, _, hu, _, hg, _⟩ := hN.node i ni hi
  cases hd : itDst ny.it with
  | none => exact ⟨⟨fun _ _ => rfl, rfl⟩, fun _ _ => rfl⟩
  | some t =>
    obtain ⟨_, hh⟩ := hN.hand y ny t hy hd
    obtain ⟨k1, k2⟩ := hh i ni hi hne
    refine ⟨agree_of hu hg fun s hs => (put_getD_ne v ?_).symm, fun d hd' => put_getD_ne v ?_⟩
    · rcases k2 with k2 | k2 | ⟨k2, k3⟩
      · intro e; injection e with e; subst e; exact k2 hs
      · rw [h1] at k2; cases k2
      · rw [h2 k2] at k3; cases k3
    · intro e; injection e with e; subst e; exact k1 hd'
theorem Inv.advance {y : Nat} {Rr : List Nat} {ny : Node} (hN : NodeOk P ops ns) (h : Inv Rs P w0 D K ops ns n0 ρ0 (y :: Rr) mask last fl listed al ts tm σ ρ w) (hy : ns[y]? = some ny) (hc : ny.cls ≠ 3) :
    ∃ mask' last' fl' al' ts' σ', Inv Rs P w0 D K ops ns n0 ρ0 Rr mask' last' fl' listed al' ts' tm σ' ρ w ∧ mask' = mask ||| 2 ^ y := by
  obtain ⟨nd', e0, hm, hb, hl, hchk⟩ := chkR_cons h.chk
  rw [hy] at e0; cases e0
  rw [if_neg hc] at hchk
  obtain ⟨d, g, o, hit, hcl, hc2⟩ := hN.quiet hy hc
  have hdst : itDst ny.it = some d := by rw [hit]; rfl
  have hwp := h.wp
  rw [emitR_cons hy, if_neg hc, List.nil_append, wpIts_cons, hit] at hwp
  simp only [itDst] at hwp
  have hown := (hN.hand y ny d hy hdst).1.resolve_left hc
  obtain ⟨oo, _, _, _, hu, _, hg, _⟩ := hN.node y ny hy
  have hself : ∀ v, Agree ny.it ts (ts.set d v) := fun v => agree_of hu hg fun t ht => (set_getD_ne v (fun e => hown (by rw [← e]; exact ht))).symm
  have hset : ∀ v, d < (ts.set d v).length → (ts.set d v).getD d U = v := fun v hlt => by
    simp at hlt; simp [List.getD, hlt]
  have hnl : listed.getD y false = false := by
    cases e : listed.getD y false
    · rfl
    · have := h.sub y e; rw [hm] at this; cases this
  have key : ∃ v σ', wpIts Rs P (emitR ns Rr (if ny.cls = 1 ∨ ny.cls = 2 then (y, ny) :: fl else fl)) (ts.set d v) σ' K ∧ Pend n0 ρ σ' (ts.set d v) σ.next ny.it ∧ SRel Rs P w0 ρ D σ' w ∧ σ.next ≤ σ'.next ∧ (∀ i b, σ.get i = some b → σ'.get i = some b) := by
    simp only [wpIt] at hwp
    by_cases hw : wants ts g = true
    · simp only [hw, if_true] at hwp
      split at hwp
      case h_2 => exact hwp.elim
      rename_i v es hop
      have hw' : wants (ts.set d v) g = true := by
        have := (hself v).2; rw [hit] at this; simp only [itGuard] at this; rw [← this]; exact hw
      have hop' : ∀ g' n', opA g' n' (ts.set d v) o = opA g' n' ts o := fun g' n' => by
        have := (hself v).1; rw [hit] at this; exact (opA_congr this).symm
      by_cases hc1 : aClass o ≤ 1
      · have := opA_pure hc1 hop; subst this
        exact ⟨v, σ, hwp, ⟨d, g, o, v, hit, hset v, .inr (.inl ⟨hw', hc1, by rw [hop']; exact hop⟩)⟩, h.srel, Nat.le_refl _, fun _ _ e => e⟩
      · have hc3 : aClass o = 2 := by omega
        obtain ⟨b, rfl, hb', hform⟩ := opA_form2 hc3 hop
        refine ⟨v, σ.push b, hwp, ⟨d, g, o, v, hit, hset v, .inr (.inr ⟨hw', hc3, b, ?_, ?_, (h.srel.dom _ (Nat.le_refl _)).1, h.n0le, Nat.lt_succ_self _⟩)⟩, h.srel.reserve b, Nat.le_succ _, fun i c e => ?_⟩
        · rw [hop', opA_get2 (g' := σ.get) hc3]; exact hop
        · rw [AState.push_get, if_pos rfl]
        · rw [AState.push_get]
          have : i ≠ σ.next := by
            intro e'; subst e'
            rw [(h.srel.dom _ (Nat.le_refl _)).2] at e; cases e
          rw [if_neg this]; exact e
    · have hw0 : wants ts g = false := by simpa using hw
      simp only [hw0, Bool.false_eq_true, if_false] at hwp
      have hw' : wants (ts.set d U) g = false := by
        have := (hself U).2; rw [hit] at this; simp only [itGuard] at this; rw [← this]; exact hw0
      exact ⟨U, σ, hwp, ⟨d, g, o, U, hit, hset U, .inl ⟨hw', rfl⟩⟩, h.srel, Nat.le_refl _, fun _ _ e => e⟩
  obtain ⟨v, σ', hwp', hpend, hS', hn', hg'⟩ := key
  have hagr : ∀ (i : Nat) (ni : Node), ns[i]? = some ni → mask.testBit i = true → i ≠ y → Agree ni.it ts (ts.set d v) ∧ (∀ d', itDst ni.it = some d' → (ts.set d v).getD d' U = ts.getD d' U) := fun i ni hi hmi hne => by
    have hbf : ni.bef.testBit y = false := by
      cases e : ni.bef.testBit y
      · rfl
      · have := h.mdown i ni y hi hmi e; rw [hm] at this; cases this
    have := hN.agree (ts := ts) hi hy hne hbf (fun e => absurd e hc) v
    rw [hdst] at this
    exact this
  refine ⟨mask ||| 2 ^ y, last, if ny.cls = 1 ∨ ny.cls = 2 then (y, ny) :: fl else fl, fun i => if i = y then σ.next else al i, ts.set d v, σ', ?_, rfl⟩
  exact {
    chk := hchk
    mlt := fun i hi => by
      rcases (tb _ _ _).1 hi with hi | hi
      · exact h.mlt i hi
      · subst hi; exact (List.getElem?_eq_some_iff.1 hy).1
    mdown := fun i nd j hi hmi hj => by
      refine (tb _ _ _).2 (.inl ?_)
      rcases (tb _ _ _).1 hmi with hmi | hmi
      · exact h.mdown i nd j hi hmi hj
      · subst hmi; rw [hy] at hi; cases hi; exact hb j hj
    lsz := h.lsz
    sub := fun i hi => (tb _ _ _).2 (.inl (h.sub i hi))
    down := h.down
    loud := fun i nd hi hmi h3 => by
      rcases (tb _ _ _).1 hmi with hmi | hmi
      · exact h.loud i nd hi hmi h3
      · subst hmi; rw [hy] at hi; cases hi; exact absurd h3 hc
    flo := fun i nd hi hmi h3 => by
      rcases (tb _ _ _).1 hmi with hmi | hmi
      · have := h.flo i nd hi hmi h3
        split
        · exact List.mem_cons_of_mem _ this
        · exact this
      · subst hmi; rw [hy] at hi; cases hi
        rw [if_pos h3]; exact List.mem_cons_self
    len := by simpa using h.len
    rel := fun t ht => by
      have h1 : ¬ PT ns mask listed t := fun ⟨i, nd, a, b, c, e⟩ => ht ⟨i, nd, a, (tb _ _ _).2 (.inl b), c, e⟩
      have h2 : t ≠ d := fun e => ht ⟨y, ny, hy, (tb _ _ _).2 (.inr rfl), hnl, by rw [hdst, e]⟩
      rw [set_getD_ne v h2]; exact h.rel t h1
    srel := hS'
    pend := fun i nd hi hmi hli => by
      by_cases e : i = y
      · subst e; rw [hy] at hi; cases hi
        simp only [if_true]; exact hpend
      · simp only [e, if_false]
        have hmi' := ((tb _ _ _).1 hmi).resolve_right e
        obtain ⟨a1, a2⟩ := hagr i nd hi hmi' e
        exact (h.pend i nd hi hmi' hli).keep a1 (by simp) a2 hg' hn' fun _ _ e => e
    dist := fun i j ni nj hi hj hij hmi hmj hli hlj c1 c2 w1 w2 => by
      have old : ∀ (k : Nat) (nk : Node), ns[k]? = some nk → k ≠ y → mask.testBit k = true → listed.getD k false = false → nk.cls = 2 → wants (ts.set d v) (itGuard nk.it) = true → al k < σ.next := fun k nk hk hky hmk hlk ck wk => by
        obtain ⟨a1, a2⟩ := hagr k nk hk hmk hky
        have wk' : wants ts (itGuard nk.it) = true := by rw [a1.2]; exact wk
        obtain ⟨d2, g2, o2, v2, hit2, _, hp⟩ := h.pend k nk hk hmk hlk
        obtain ⟨_, _, _, hit3, hcl3, _⟩ := hN.quiet hk (by omega)
        rw [hit2] at hit3 wk'; cases hit3
        simp only [itGuard] at wk'
        rcases hp with ⟨a, _⟩ | ⟨_, a, _⟩ | ⟨_, _, b, _, _, _, _, a⟩
        · rw [wk'] at a; cases a
        · omega
        · exact a
      by_cases e1 : i = y
      · have e2 : j ≠ y := fun e => hij (e1.trans e.symm)
        simp only [e1, if_true, e2, if_false]
        have := old j nj hj e2 (((tb _ _ _).1 hmj).resolve_right e2) hlj c2 w2
        omega
      · by_cases e2 : j = y
        · simp only [e2, if_true, e1, if_false]
          have := old i ni hi e1 (((tb _ _ _).1 hmi).resolve_right e1) hli c1 w1
          omega
        · simp only [e1, e2, if_false]
          have m1 := ((tb _ _ _).1 hmi).resolve_right e1
          have m2 := ((tb _ _ _).1 hmj).resolve_right e2
          exact h.dist i j ni nj hi hj hij m1 m2 hli hlj c1 c2 (by rw [(hagr i ni hi m1 e1).1.2]; exact w1) (by rw [(hagr j nj hj m2 e2).1.2]; exact w2)
    n0le := Nat.le_trans h.n0le hn'
    rx := h.rx
    wp := hwp' }
theorem Inv.bring (hN : NodeOk P ops ns) {x : Nat} {nx : Node} (hx : ns[x]? = some nx) : ∀ (Rr : List Nat) (mask : Nat) (last : Option Nat) (fl : List (Nat × Node)) (al : Nat → Nat) (ts : List AV) (σ : AState),
    Inv Rs P w0 D K ops ns n0 ρ0 Rr mask last fl listed al ts tm σ ρ w → x ∈ Rr → (∀ j, nx.bef.testBit j = true → listed.getD j false = true) →
    ∃ Rr' mask' last' fl' al' ts' σ', Inv Rs P w0 D K ops ns n0 ρ0 (x :: Rr') mask' last' fl' listed al' ts' tm σ' ρ w
  | [], _, _, _, _, _, _, _, hm, _ => by simp at hm
  | y :: Rr, mask, last, fl, al, ts, σ, h, hm, hb => by
    by_cases e : x = y
    · subst e; exact ⟨_, _, _, _, _, _, _, h⟩
    · have hm' : x ∈ Rr := by simpa [e] using hm
      obtain ⟨ny, hy, _⟩ := chkR_cons h.chk
      by_cases hc : ny.cls = 3
      · obtain ⟨l, a, b⟩ := chkR_loud h.chk hy hc hm' hx
        have := h.sub l (hb l a)
        rw [b] at this; cases this
      · obtain ⟨_, _, _, _, _, _, h', _⟩ := h.advance hN hy hc
        exact Inv.bring hN hx Rr _ _ _ _ _ _ h' hm' hb
end inv
end Go.Am
namespace Go.Am
open Go.RowKit
variable {Rs : Code → AC → Prop} {P : Program} {w0 w w' : World} {ρ ρ' ρ0 : RMap} {D : List Nat × List Nat} {σ σ' : AState} {ops : Array Oper} {ns : List Node} {n0 : Nat} {ts ts' : List AV} {tm : Array Value} {K : List AV → AState → Prop}
variable {R2 : List Nat} {mask : Nat} {last : Option Nat} {fl : List (Nat × Node)} {listed : Array Bool} {al : Nat → Nat}
variable {b : Frame} {k : List Item} {cs : List Frame} {ds : List Deferred}
open Classical in
noncomputable def maskA (p : Nat → Prop) (ts : List AV) : List AV := (List.range ts.length).map fun t => if p t then U else ts.getD t U
open Classical in
noncomputable def maskV (p : Nat → Prop) (tm : Array Value) : Array Value := (Array.range tm.size).map fun t => if p t then undef else tm.getD t undef
open Classical in
theorem maskA_get (p : Nat → Prop) (t : Nat) : (maskA p ts).getD t U = if p t then U else ts.getD t U := by
  unfold maskA
  by_cases h : t < ts.length
  · simp [List.getD, h]
  · simp [List.getD, h]
open Classical in
theorem maskV_get (p : Nat → Prop) (t : Nat) : (maskV p tm).getD t undef = if p t then undef else tm.getD t undef := by
  unfold maskV
  by_cases h : t < tm.size
  · simp [Array.getD, h]
  · simp [Array.getD, h]
theorem mask_rel {p : Nat → Prop} (hl : ts.length = tm.size) (h : ∀ t, ¬ p t → VRel ρ (ts.getD t U) (tm.getD t undef)) : TRel ρ (maskA p ts) (maskV p tm) := by
  refine ⟨by simp [maskA, maskV, hl], fun t => ?_⟩
  rw [maskA_get, maskV_get]
  by_cases e : p t
  · simp only [e, if_true]; exact VRel.U
  · simp only [e, if_false]; exact h t e
theorem Inv.looks (hN : NodeOk P ops ns) (h : Inv Rs P w0 D K ops ns n0 ρ0 R2 mask last fl listed al ts tm σ ρ w) {x : Nat} {nx : Node} (hx : ns[x]? = some nx) (hb : ∀ j, nx.bef.testBit j = true → listed.getD j false = true)
    (_hq : mask.testBit x = true → nx.cls ≠ 3) : ∀ t ∈ nx.uses, ¬ PT ns mask listed t := by
  rintro t ht ⟨i, ni, hi, hmi, hli, hdi⟩
  have hc3 : ni.cls ≠ 3 := fun e => by rw [h.loud i ni hi hmi e] at hli; cases hli
  obtain ⟨k1, k2⟩ := hN.hand i ni t hi hdi
  by_cases e : x = i
  · subst e; rw [hx] at hi; cases hi
    exact (k1.resolve_left hc3) ht
  · rcases (k2 x nx hx e).2 with k3 | k3 | ⟨k3, _⟩
    · exact k3 ht
    · rw [hb i k3] at hli; cases hli
    · exact hc3 k3
theorem Inv.view (hN : NodeOk P ops ns) (h : Inv Rs P w0 D K ops ns n0 ρ0 R2 mask last fl listed al ts tm σ ρ w) {x : Nat} {nx : Node} (hx : ns[x]? = some nx) (hb : ∀ j, nx.bef.testBit j = true → listed.getD j false = true)
    (hq : mask.testBit x = true → nx.cls ≠ 3) : ∃ o tsM ev, ops[x]? = some o ∧ resIt P ops o = some nx.it ∧ EvRel P ρ tsM ev ∧ Agree nx.it ts tsM ∧ ((∀ c d, o.op ≠ .select c d) → execOp (⟨tm, ds⟩ : Act).eval o = execOp ev o) ∧
      Region.wanted o (yielded ops tm) = wants tsM (itGuard nx.it) := by
  obtain ⟨o, ho, hit, _, hu, hop, hg, _⟩ := hN.node x nx hx
  have hl := h.looks hN hx hb hq
  have hT := mask_rel (p := PT ns mask listed) h.len h.rel
  refine ⟨o, maskA (PT ns mask listed) ts, (⟨maskV (PT ns mask listed) tm, ds⟩ : Act).eval, ho, hit, h.srel.evRel hT ds, agree_of hu hg fun t ht => ?_, fun hs => execOp_congr o hs fun y hy => ?_, ?_⟩
  · rw [maskA_get, if_neg (hl t ht)]
  · cases y with
    | tmp t =>
      have := maskV_get (tm := tm) (PT ns mask listed) t
      rw [if_neg (hl t (hop t hy))] at this
      show tm.getD t undef = (maskV (PT ns mask listed) tm).getD t undef
      rw [this]
    | _ => rfl
  · obtain ⟨_, hguard, _⟩ := resIt_parts hit
    refine wants_eq (ρ := ρ) hguard fun t c e => ?_
    have h1 := hl t (hg t c e)
    rw [maskA_get, if_neg h1]
    exact h.rel t h1
theorem put_act {d : Option Nat} {v : Value} : ({ tmps := tm, defers := ds } : Act).put d v = ⟨(({ tmps := tm, defers := ds } : Act).put d v).tmps, ds⟩ := by cases d <;> rfl
theorem put_size {d : Option Nat} {v : Value} : (({ tmps := tm, defers := ds } : Act).put d v).tmps.size = tm.size := by cases d <;> simp [Act.put]
theorem putV_ne {d : Option Nat} {t : Nat} {v : Value} (h : d ≠ some t) : (({ tmps := tm, defers := ds } : Act).put d v).tmps.getD t undef = tm.getD t undef := by
  cases d with
  | none => rfl
  | some d =>
    have : d ≠ t := fun e => h (by rw [e])
    simp only [Act.put, Array.getD_eq_getD_getElem?, Array.getElem?_setIfInBounds_ne this]
theorem putV_same {t : Nat} {v : Value} (h : t < tm.size) : (({ tmps := tm, defers := ds } : Act).put (some t) v).tmps.getD t undef = v := by
  simp [Act.put, Array.getD, h]
theorem getD_set {x i : Nat} (hx : x < listed.size) : (listed.setIfInBounds x true).getD i false = true ↔ listed.getD i false = true ∨ i = x := by
  by_cases e : x = i
  · subst e; simp [hx]
  · rw [getD_set_ne false e]
    constructor
    · exact .inl
    · rintro (h | h)
      · exact h
      · exact absurd h.symm e
theorem getD_unset {x i : Nat} (hx : x < listed.size) (h : (listed.setIfInBounds x true).getD i false = false) : listed.getD i false = false ∧ i ≠ x := by
  constructor
  · cases e : listed.getD i false
    · rfl
    · rw [(getD_set hx).2 (.inl e)] at h; cases h
  · intro e
    rw [(getD_set hx).2 (.inr e)] at h; cases h
theorem Inv.late (hN : NodeOk P ops ns) (h : Inv Rs P w0 D K ops ns n0 ρ0 R2 mask last fl listed al ts tm σ ρ w) {x : Nat} {nx : Node} {rest : List Nat} (hx : ns[x]? = some nx) (hmx : mask.testBit x = true) (hlx : listed.getD x false = false)
    (hb : ∀ j, nx.bef.testBit j = true → listed.getD j false = true) :
    ∃ tm' ρ' w', Inv Rs P w0 D K ops ns n0 ρ0 R2 mask last fl (listed.setIfInBounds x true) al ts tm' σ ρ' w' ∧ Steps P (lone (b.atR ⟨tm, ds⟩ (.inRegion ops (x :: rest) :: k)) cs w) (lone (b.atR ⟨tm', ds⟩ (.inRegion ops rest :: k)) cs w') := by
  have hcx : nx.cls ≠ 3 := fun e => by rw [h.loud x nx hx hmx e] at hlx; cases hlx
  have hxs : x < listed.size := by rw [h.lsz, ← hN.len]; exact (List.getElem?_eq_some_iff.1 hx).1
  obtain ⟨o, tsM, ev, ho, hres, hE, hA, hev, hwq⟩ := h.view (ds := ds) hN hx hb (fun _ => hcx)
  obtain ⟨hdst, hguard, hkind⟩ := resIt_parts hres
  obtain ⟨d, g, ao, v, hit, hval, hp⟩ := h.pend x nx hx hmx hlx
  have hao : ao = (resOp P o.op).getD .fail := by
    rcases hkind with ⟨_, _, _, _, _, _, _, _, e⟩ | ⟨_, _, _, _, _, _, _, _, _, e⟩ | ⟨a, e, ea⟩
    · rw [e] at hit; cases hit
    · rw [e] at hit; cases hit
    · rw [e] at hit; injection hit with _ _ q3; rw [← q3]; exact ea
  have hod : o.dst = some d := by rw [← hdst, hit]; rfl
  have hAu := hA.1
  have hAw := hA.2
  rw [hit] at hAu hAw hwq
  simp only [itUses, itGuard] at hAu hAw hwq
  have key : ∃ ρ' cv w', RX n0 ρ ρ' ∧ RLe ρ ρ' ∧ VRel ρ' v cv ∧ SRel Rs P w0 ρ' D σ w' ∧ ((wants ts g = true → aClass ao = 2 → ∀ a, a ≠ al x → a < σ.next → ρ a = none → ρ' a = none) ∧ (aClass ao ≠ 2 ∨ wants ts g = false → ∀ a, a < σ.next → ρ a = none → ρ' a = none)) ∧
      Steps P (lone (b.atR ⟨tm, ds⟩ (.inRegion ops (x :: rest) :: k)) cs w) (lone (b.atR ((⟨tm, ds⟩ : Act).put o.dst cv) (.inRegion ops rest :: k)) cs w') := by
    have hnd : ∀ {g' n' r}, opA g' n' ts ao = some r → (∀ c, o.op ≠ .defer c) ∧ (∀ c e, o.op ≠ .select c e) := by
      intro g' n' r hr
      constructor
      · intro c hc; rw [hao, hc] at hr; simp [resOp, opA] at hr
      · intro c e hc; rw [hao, hc] at hr; simp [resOp, opA] at hr
    rcases hp with ⟨a1, a2⟩ | ⟨a1, a2, a3⟩ | ⟨a1, a2, bb, a3, a4, a5, a6, a7⟩
    · have hwt : Region.wanted o (yielded ops tm) = false := by rw [hwq, ← hAw]; exact a1
      have hst := stepR_op_skip (P := P) (b := b) (a := ⟨tm, ds⟩) (k := k) (cs := cs) (w := w) (ops := ops) (i := x) (rest := rest) (by simp [ho, hwt])
      rw [ho] at hst
      exact ⟨ρ, undef, w, RX.refl _ _, RLe.refl _, by rw [a2]; exact VRel.U, h.srel, ⟨fun e => (by rw [a1] at e; cases e), fun _ _ _ e => e⟩, .one hst⟩
    · have hwt : Region.wanted o (yielded ops tm) = true := by rw [hwq, ← hAw]; exact a1
      obtain ⟨hd, hs⟩ := hnd a3
      obtain ⟨ρ', cv, w', nx', hrx, hrun, hvo, hvr, hS'⟩ := (hao ▸ op_sound' (R := Rs) (P := P) (o := o.op)) w0 w ρ D σ tsM ev v [] o.dst o.type o.pos o.after o.guard h.srel hE (by rw [← opA_congr hAu]; exact a3)
      exact ⟨ρ', cv, w', hrx.mono h.n0le, h.srel.le hrx, hvr, hS', ⟨fun _ e => by omega, fun _ a ha e => by rw [hrx a ha]; exact e⟩, .one (step_next ho hwt hd (by rw [hev hs]; exact hrun) hvo)⟩
    · have hwt : Region.wanted o (yielded ops tm) = true := by rw [hwq, ← hAw]; exact a1
      obtain ⟨hd, hs⟩ := hnd a3
      obtain ⟨cv, w', nx', m, hrun, hvo, hbl, hm1, hm2, hvr, hbr⟩ := (hao ▸ fresh_ok' (R := Rs) (P := P) (o := o.op)) (hao ▸ a2) w ρ tsM ev v bb (al x) σ.get o.dst o.type o.pos o.after o.guard hE a5 (by rw [← opA_congr hAu]; exact a3)
      exact ⟨upd ρ (al x) m, cv, w', fun j hj => upd_ne _ _ (by omega), upd_le a5, hvr, h.srel.realize a4 a5 a7 hbl hm1 hm2 (hbr _ h.srel.below.size), ⟨fun _ _ a ha _ e => by rw [upd_ne _ _ ha]; exact e, fun e => by
        rcases e with e | e
        · exact absurd a2 e
        · rw [a1] at e; cases e⟩, .one (step_next ho hwt hd (by rw [hev hs]; exact hrun) hvo)⟩
  obtain ⟨ρ', cv, w', hrx, hle, hvr, hS', hfree, hst⟩ := key
  rw [put_act] at hst
  refine ⟨_, ρ', w', ?_, hst⟩
  have hpt : ∀ t, t ≠ d → ¬ PT ns mask (listed.setIfInBounds x true) t → ¬ PT ns mask listed t := by
    rintro t htd hn ⟨i, ni, hi, hmi, hli, hdi⟩
    refine hn ⟨i, ni, hi, hmi, ?_, hdi⟩
    by_cases e : x = i
    · subst e; rw [hx] at hi; cases hi
      rw [hit] at hdi; simp only [itDst, Option.some.injEq] at hdi
      exact absurd hdi.symm htd
    · rw [getD_set_ne false e]; exact hli
  exact {
    chk := h.chk
    mlt := h.mlt
    mdown := h.mdown
    lsz := by simpa using h.lsz
    sub := fun i hi => by
      rcases (getD_set hxs).1 hi with hi | hi
      · exact h.sub i hi
      · subst hi; exact hmx
    down := fun i nd j hi hli hj => by
      refine (getD_set hxs).2 (.inl ?_)
      rcases (getD_set hxs).1 hli with hli | hli
      · exact h.down i nd j hi hli hj
      · subst hli; rw [hx] at hi; cases hi; exact hb j hj
    loud := fun i nd hi hmi h3 => (getD_set hxs).2 (.inl (h.loud i nd hi hmi h3))
    flo := h.flo
    len := by rw [put_size]; exact h.len
    rel := fun t ht => by
      rw [hod]
      by_cases e : t = d
      · subst e
        by_cases hlt : t < ts.length
        · rw [hval hlt, putV_same (by rw [← h.len]; exact hlt)]; exact hvr
        · have h1 : ts.getD t U = U := by simp [List.getD, hlt]
          have h2 : (({ tmps := tm, defers := ds } : Act).put (some t) cv).tmps.getD t undef = undef := by
            have : ¬ t < tm.size := by rw [← h.len]; exact hlt
            simp [Act.put, Array.getD, this]
          rw [h1, h2]; exact VRel.U
      · rw [putV_ne (by intro e'; injection e' with e'; exact e e'.symm)]
        exact VRel.mono hle _ _ (h.rel t (hpt t e ht))
    srel := hS'
    pend := fun i nd hi hmi hli => by
      obtain ⟨hli', hix⟩ := getD_unset hxs hli
      refine (h.pend i nd hi hmi hli').keep ⟨fun _ _ => rfl, rfl⟩ rfl (fun _ _ => rfl) (fun _ _ e => e) (Nat.le_refl _) ?_
      rintro ⟨d2, g2, o2, e2, c2, w2⟩ ha hn
      by_cases hcase : aClass ao = 2 ∧ wants ts g = true
      · obtain ⟨e5, e6⟩ := hcase
        refine hfree.1 e6 e5 _ ?_ ha hn
        have hcl : ∀ {j : Nat} {nj : Node} {dj gj oj}, ns[j]? = some nj → nj.it = .op dj gj oj → aClass oj = 2 → mask.testBit j = true → listed.getD j false = false → nj.cls = 2 := fun {j nj dj gj oj} hj hjt hcj hmj hlj => by
          have h3 : nj.cls ≠ 3 := fun e => by rw [h.loud j nj hj hmj e] at hlj; cases hlj
          obtain ⟨_, _, _, q1, q2, _⟩ := hN.quiet hj h3
          rw [hjt] at q1; cases q1; omega
        exact h.dist i x nd nx hi hx hix hmi hmx hli' hlx (hcl hi e2 c2 hmi hli') (hcl hx hit e5 hmx hlx) (by rw [e2]; exact w2) (by rw [hit]; exact e6)
      · refine hfree.2 ?_ _ ha hn
        by_cases e5 : aClass ao = 2
        · right
          cases e6 : wants ts g
          · rfl
          · exact absurd ⟨e5, e6⟩ hcase
        · exact .inl e5
    dist := fun i j ni nj hi hj hij hmi hmj hli hlj => h.dist i j ni nj hi hj hij hmi hmj (getD_unset hxs hli).1 (getD_unset hxs hlj).1
    n0le := h.n0le
    rx := h.rx.trans hrx (Nat.le_refl _)
    wp := h.wp }
theorem agains_wp {l : List It} {bef : Nat} : ∀ {fl : List (Nat × Node)} {ts : List AV} {σ : AState}, wpIts Rs P (fl.filterMap (againOf bef) ++ l) ts σ K → (∀ i m, (i, m) ∈ fl → bef.testBit i = false → ∀ d g o, m.it = .op (some d) g o → wants ts g = true → againOk σ.get σ.next ts d o) ∧ wpIts Rs P l ts σ K
  | [], ts, σ, h => ⟨by simp, h⟩
  | (i, m) :: fl, ts, σ, h => by
    rw [List.filterMap_cons] at h
    cases e : againOf bef (i, m) with
    | none =>
      rw [e] at h
      obtain ⟨h1, h2⟩ := agains_wp h
      refine ⟨fun i' m' hm' hb' d g o hit => ?_, h2⟩
      rcases List.mem_cons.1 hm' with e' | e'
      · cases e'; simp [againOf, hit, hb'] at e
      · exact h1 i' m' e' hb' d g o hit
    | some it =>
      rw [e] at h
      simp only [List.cons_append] at h
      have hit' : ∃ d g o, m.it = .op (some d) g o ∧ it = .again d g o := by
        unfold againOf at e
        cases hb : bef.testBit i
        · rw [hb, cond_false] at e
          split at e
          · rename_i d g o q; injection e with e; exact ⟨d, g, o, q, e.symm⟩
          · cases e
        · rw [hb, cond_true] at e; cases e
      obtain ⟨d, g, o, q1, rfl⟩ := hit'
      simp only [wpIts] at h
      obtain ⟨h1, h2⟩ := agains_wp h.2
      refine ⟨fun i' m' hm' hb' d' g' o' hit hw => ?_, h2⟩
      rcases List.mem_cons.1 hm' with e' | e'
      · cases e'; rw [q1] at hit; cases hit; exact h.1 hw
      · exact h1 i' m' e' hb' d' g' o' hit hw
theorem Inv.loudStep (hN : NodeOk P ops ns) {x : Nat} {nx : Node} {Rr rest : List Nat} (h : Inv Rs P w0 D K ops ns n0 ρ0 (x :: Rr) mask last fl listed al ts tm σ ρ w) (hx : ns[x]? = some nx) (hcx : nx.cls = 3)
    (hb : ∀ j, nx.bef.testBit j = true → listed.getD j false = true) :
    ∃ mask' last' ts' tm' σ' ρ' w', Inv Rs P w0 D K ops ns n0 ρ0 Rr mask' last' fl (listed.setIfInBounds x true) al ts' tm' σ' ρ' w' ∧ Steps P (lone (b.atR ⟨tm, ds⟩ (.inRegion ops (x :: rest) :: k)) cs w) (lone (b.atR ⟨tm', ds⟩ (.inRegion ops rest :: k)) cs w') := by
  obtain ⟨nd', e0, hm, hbm, hl, hchk⟩ := chkR_cons h.chk
  rw [hx] at e0; cases e0
  rw [if_pos hcx] at hchk
  have hxs : x < listed.size := by rw [h.lsz, ← hN.len]; exact (List.getElem?_eq_some_iff.1 hx).1
  obtain ⟨o, tsM, ev, ho, hres, hE, hA, hev, hwq⟩ := h.view (ds := ds) hN hx hb (fun e => by rw [hm] at e; cases e)
  obtain ⟨hdst, hguard, hkind⟩ := resIt_parts hres
  have hna : ∀ t g o, nx.it ≠ .again t g o := by
    intro t g o' e
    rcases hkind with ⟨_, _, _, _, _, _, _, _, e'⟩ | ⟨_, _, _, _, _, _, _, _, _, e'⟩ | ⟨_, e', _⟩ <;> rw [e'] at e <;> cases e
  have hwp := h.wp
  rw [emitR_cons hx, if_pos hcx, if_neg (by omega), wpIts_cons] at hwp
  obtain ⟨v, ρ', σ', cv, w', hK, hn', hrx, hvr, hS', hst⟩ := it_step1 (b := b) (a := ⟨tm, ds⟩) (k := k) (cs := cs) (rest := rest) ho hres hE hev hwq h.srel (wpIt_congr hna hA hwp)
  obtain ⟨hag, hwp'⟩ := agains_wp hK
  rw [← hdst, put_act] at hst
  refine ⟨mask ||| 2 ^ x, some x, put (itDst nx.it) v ts, _, σ', ρ', w', ?_, hst⟩
  have hagr : ∀ (i : Nat) (ni : Node), ns[i]? = some ni → mask.testBit i = true → listed.getD i false = false → i ≠ x → Agree ni.it ts (put (itDst nx.it) v ts) ∧ (∀ d', itDst ni.it = some d' → (put (itDst nx.it) v ts).getD d' U = ts.getD d' U) := fun i ni hi hmi hli hne => by
    refine hN.agree hi hx hne ?_ (fun _ => ?_) v
    · cases e : ni.bef.testBit x
      · rfl
      · have := h.mdown i ni x hi hmi e; rw [hm] at this; cases this
    · cases e : nx.bef.testBit i
      · rfl
      · have := hb i e; rw [hli] at this; cases this
  have old : ∀ i, (mask ||| 2 ^ x).testBit i = true → (listed.setIfInBounds x true).getD i false = false → mask.testBit i = true ∧ listed.getD i false = false ∧ i ≠ x := fun i hmi hli => by
    obtain ⟨a, b⟩ := getD_unset hxs hli
    exact ⟨((tb _ _ _).1 hmi).resolve_right b, a, b⟩
  exact {
    chk := hchk
    mlt := fun i hi => by
      rcases (tb _ _ _).1 hi with hi | hi
      · exact h.mlt i hi
      · subst hi; exact (List.getElem?_eq_some_iff.1 hx).1
    mdown := fun i nd j hi hmi hj => by
      refine (tb _ _ _).2 (.inl ?_)
      rcases (tb _ _ _).1 hmi with hmi | hmi
      · exact h.mdown i nd j hi hmi hj
      · subst hmi; rw [hx] at hi; cases hi; exact hbm j hj
    lsz := by simpa using h.lsz
    sub := fun i hi => by
      refine (tb _ _ _).2 ?_
      rcases (getD_set hxs).1 hi with hi | hi
      · exact .inl (h.sub i hi)
      · exact .inr hi
    down := fun i nd j hi hli hj => by
      refine (getD_set hxs).2 (.inl ?_)
      rcases (getD_set hxs).1 hli with hli | hli
      · exact h.down i nd j hi hli hj
      · subst hli; rw [hx] at hi; cases hi; exact hb j hj
    loud := fun i nd hi hmi h3 => by
      refine (getD_set hxs).2 ?_
      rcases (tb _ _ _).1 hmi with hmi | hmi
      · exact .inl (h.loud i nd hi hmi h3)
      · exact .inr hmi
    flo := fun i nd hi hmi h3 => by
      rcases (tb _ _ _).1 hmi with hmi | hmi
      · exact h.flo i nd hi hmi h3
      · subst hmi; rw [hx] at hi; cases hi; omega
    len := by rw [put_size, put_length]; exact h.len
    rel := fun t ht => by
      have h1 : ¬ PT ns mask listed t := by
        rintro ⟨i, nd, a, b, c, e⟩
        refine ht ⟨i, nd, a, (tb _ _ _).2 (.inl b), ?_, e⟩
        have : x ≠ i := fun e' => by subst e'; rw [hm] at b; cases b
        rw [getD_set_ne false this]; exact c
      by_cases e : itDst nx.it = some t
      · rw [e]
        by_cases hlt : t < ts.length
        · have e1 : (put (some t) v ts).getD t U = v := by simp [put, List.getD, hlt]
          rw [e1, putV_same (by rw [← h.len]; exact hlt)]; exact hvr
        · have e1 : (put (some t) v ts).getD t U = U := by simp [put, List.getD, hlt]
          have e2 : (({ tmps := tm, defers := ds } : Act).put (some t) cv).tmps.getD t undef = undef := by
            have : ¬ t < tm.size := by rw [← h.len]; exact hlt
            simp [Act.put, Array.getD, this]
          rw [e1, e2]; exact VRel.U
      · rw [put_getD_ne v e, putV_ne e]
        exact VRel.mono (h.srel.le hrx) _ _ (h.rel t h1)
    srel := hS'
    pend := fun i nd hi hmi hli => by
      obtain ⟨hmi', hli', hne⟩ := old i hmi hli
      obtain ⟨⟨a1, a2⟩, a3⟩ := hagr i nd hi hmi' hli' hne
      have hnb : nx.bef.testBit i = false := by
        cases e : nx.bef.testBit i
        · rfl
        · have := hb i e; rw [hli'] at this; cases this
      obtain ⟨d, g, oo, vv, hit, hval, hp⟩ := h.pend i nd hi hmi' hli'
      have h3 : nd.cls ≠ 3 := fun e => by rw [h.loud i nd hi hmi' e] at hli'; cases hli'
      obtain ⟨_, _, _, q1, q2, _⟩ := hN.quiet hi h3
      rw [hit] at q1 a1 a2 a3; cases q1
      simp only [itUses, itGuard] at a1 a2
      have a3 := a3 d rfl
      have hcong : ∀ g' n', opA g' n' (put (itDst nx.it) v ts) oo = opA g' n' ts oo := fun g' n' => (opA_congr a1).symm
      rcases hp with ⟨b1, b2⟩ | ⟨b1, b2, b3⟩ | ⟨b1, b2, bb, b3, b4, b5, b6, b7⟩
      · exact ⟨d, g, oo, vv, hit, fun e => by rw [a3]; exact hval (by rw [put_length] at e; exact e), .inl ⟨by rw [← a2]; exact b1, b2⟩⟩
      · by_cases hc0 : aClass oo = 0
        · exact ⟨d, g, oo, vv, hit, fun e => by rw [a3]; exact hval (by rw [put_length] at e; exact e), .inr (.inl ⟨by rw [← a2]; exact b1, b2, by rw [hcong, opA_get0 (g' := σ.get) (n' := σ.next) hc0]; exact b3⟩)⟩
        · have hin := h.flo i nd hi hmi' (by omega)
          have hok := hag i nd hin hnb d g oo hit (by rw [← a2]; exact b1)
          unfold againOk at hok
          split at hok
          · rename_i v2 e2
            exact ⟨d, g, oo, v2, hit, fun _ => hok, .inr (.inl ⟨by rw [← a2]; exact b1, b2, e2⟩)⟩
          · rename_i v2 b2' e2
            have := opA_pure b2 e2; cases this
          · exact hok.elim
      · have hin := h.flo i nd hi hmi' (by omega)
        have hok := hag i nd hin hnb d g oo hit (by rw [← a2]; exact b1)
        obtain ⟨bb', hbe, hall, hform⟩ := opA_form2 b2 b3
        injection hbe with hbe; injection hbe with hbe; subst hbe
        have hdl : d < ts.length := by
          rcases Nat.lt_or_ge d ts.length with q | q
          · exact q
          · exfalso
            have e1 : (put (itDst nx.it) v ts).getD d U = U := by rw [a3]; simp [List.getD, q]
            unfold againOk at hok
            rw [e1] at hok
            split at hok
            · rename_i v2 e2
              obtain ⟨u, hu⟩ := hall σ'.next
              rw [hcong, opA_get2 (g' := σ.get) b2, hu] at e2; cases e2
            · exact hok
            · exact hok
        have hv := hval hdl
        have hget : σ'.get (al i) = some bb := by
          obtain ⟨u, hu⟩ := hall σ'.next
          unfold againOk at hok
          rw [hcong, opA_get2 (g' := σ.get) b2, hu, a3, hv] at hok
          rcases hform with q | ⟨l, c, s, q⟩
          · subst q; exact hok
          · subst q; exact hok
        exact ⟨d, g, oo, vv, hit, fun _ => by rw [a3]; exact hv, .inr (.inr ⟨by rw [← a2]; exact b1, b2, bb, by rw [hcong, opA_get2 (g' := σ.get) b2]; exact b3, hget, by rw [hrx _ b7]; exact b5, b6, by omega⟩)⟩
    dist := fun i j ni nj hi hj hij hmi hmj hli hlj c1 c2 w1 w2 => by
      obtain ⟨m1, l1, e1⟩ := old i hmi hli
      obtain ⟨m2, l2, e2⟩ := old j hmj hlj
      exact h.dist i j ni nj hi hj hij m1 m2 l1 l2 c1 c2 (by rw [(hagr i ni hi m1 l1 e1).1.2]; exact w1) (by rw [(hagr j nj hj m2 l2 e2).1.2]; exact w2)
    n0le := Nat.le_trans h.n0le hn'
    rx := h.rx.trans hrx h.n0le
    wp := hwp' }
end Go.Am
namespace Go.Am
open Go.RowKit
variable {Rs : Code → AC → Prop} {P : Program} {w0 w w' : World} {ρ ρ' : RMap} {D : List Nat × List Nat} {σ : AState} {ops : Array Oper}
def RegOut (Rs : Code → AC → Prop) (P : Program) (w0 : World) (ρ : RMap) (D : List Nat × List Nat) (n : Nat) (K : List AV → AState → Prop) (m : Machine) (b : Frame) (k : List Item) (cs : List Frame) (ds : List Deferred) : Prop :=
  ∃ ts' σ' ρ' tm' w', K ts' σ' ∧ n ≤ σ'.next ∧ RX n ρ ρ' ∧ TRel ρ' ts' tm' ∧ SRel Rs P w0 ρ' D σ' w' ∧ Steps P m (lone (b.atR ⟨tm', ds⟩ k) cs w')
theorem guard_rel {ts : List AV} {tm : Array Value} (hT : TRel ρ ts tm) (g : Option (Nat × Bool)) : ∀ t c, g = some (t, c) → VRel ρ (ts.getD t U) (tm.getD t undef) := fun t _ _ => hT.2 t
theorem its_from {b : Frame} {k : List Item} {cs : List Frame} {ds : List Deferred} {ops : Array Oper} : ∀ (l : List Oper) (i : Nat) (its : List It) (ts : List AV) (tm : Array Value) (σ : AState) (ρ : RMap) (w : World) (K : List AV → AState → Prop),
    ops.toList.drop i = l → resIts P ops l = some its → wpIts Rs P its ts σ K → TRel ρ ts tm → SRel Rs P w0 ρ D σ w →
    RegOut Rs P w0 ρ D σ.next K (lone (b.atR ⟨tm, ds⟩ (.inRegion ops (List.range' i l.length) :: k)) cs w) b k cs ds
  | [], i, its, ts, tm, σ, ρ, w, K, _, hits, h, hT, hS => by
    simp only [resIts, Option.some.injEq] at hits; subst hits
    exact ⟨ts, σ, ρ, tm, w, h, Nat.le_refl _, RX.refl _ _, hT, hS, .one stepR_region_end⟩
  | o :: l, i, its, ts, tm, σ, ρ, w, K, hdrop, hits, h, hT, hS => by
    simp only [resIts] at hits
    split at hits
    case h_2 => cases hits
    rename_i it r hit hr
    injection hits with hits; subst hits
    have ho : ops[i]? = some o := by
      have : (ops.toList.drop i)[0]? = some o := by rw [hdrop]; rfl
      simpa using this
    obtain ⟨v, ρ1, σ1, cv, w1, hwp, hn1, hx1, hv, hS1, hst⟩ := it_step (b := b) (a := ⟨tm, ds⟩) (k := k) (cs := cs) (rest := List.range' (i + 1) l.length) ho hit (hS.evRel hT ds) (guard_rel hT _) hS h
    have hT1 : TRel ρ1 (put o.dst v ts) (({ tmps := tm, defers := ds } : Act).put o.dst cv).tmps := (hT.mono (hS.le hx1)).put hv o.dst ds
    have hdrop' : ops.toList.drop (i + 1) = l := by rw [← List.tail_drop, hdrop]; rfl
    have hput : ({ tmps := tm, defers := ds } : Act).put o.dst cv = ⟨(({ tmps := tm, defers := ds } : Act).put o.dst cv).tmps, ds⟩ := by cases o.dst <;> rfl
    rw [hput] at hst
    obtain ⟨ts2, σ2, ρ2, tm2, w2, hK, hn2, hx2, hT2, hS2, hst2⟩ := its_from l (i + 1) r (put o.dst v ts) _ σ1 ρ1 w1 K hdrop' hr hwp hT1 hS1
    exact ⟨ts2, σ2, ρ2, tm2, w2, hK, Nat.le_trans hn1 hn2, hx1.trans hx2 hn1, hT2, hS2, Steps.trans hst hst2⟩
theorem its_sound {b : Frame} {k : List Item} {cs : List Frame} {ds : List Deferred} {ops : Array Oper} {its : List It} {ts : List AV} {tm : Array Value} {K : List AV → AState → Prop}
    (hits : resIts P ops ops.toList = some its) (h : wpIts Rs P its ts σ K) (hT : TRel ρ ts tm) (hS : SRel Rs P w0 ρ D σ w) :
    RegOut Rs P w0 ρ D σ.next K (lone (b.atR ⟨tm, ds⟩ (.inRegion ops (List.range ops.size) :: k)) cs w) b k cs ds := by
  have := its_from (b := b) (k := k) (cs := cs) (ds := ds) ops.toList 0 its ts tm σ ρ w K rfl hits h hT hS
  rwa [← List.range_eq_range', Array.length_toList] at this
theorem go_none {md : Region.Mode} {fuel t : Nat} {listed : Array Bool} (h : Region.ready md ops listed = []) : Region.linearise.go md ops fuel t listed [] = [] := by
  cases fuel with
  | zero => simp [Region.linearise.go]
  | succ fuel =>
    simp only [Region.linearise.go]
    change (match (Region.ready md ops listed)[t % (Region.ready md ops listed).length]? with
      | some i => Region.linearise.go md ops fuel (t / (Region.ready md ops listed).length) (listed.setIfInBounds i true) [i]
      | none => [].reverse) = []
    rw [h]; rfl
theorem go_some {md : Region.Mode} {fuel t : Nat} {listed : Array Bool} (h : Region.ready md ops listed ≠ []) : ∃ i t', i ∈ Region.ready md ops listed ∧ Region.linearise.go md ops (fuel + 1) t listed [] = i :: Region.linearise.go md ops fuel t' (listed.setIfInBounds i true) [] := by
  simp only [Region.linearise.go]
  change ∃ i t', i ∈ Region.ready md ops listed ∧ (match (Region.ready md ops listed)[t % (Region.ready md ops listed).length]? with
    | some i => Region.linearise.go md ops fuel (t / (Region.ready md ops listed).length) (listed.setIfInBounds i true) [i]
    | none => [].reverse) = i :: Region.linearise.go md ops fuel t' (listed.setIfInBounds i true) []
  have hlt : t % (Region.ready md ops listed).length < (Region.ready md ops listed).length := Nat.mod_lt _ (by
    cases e : Region.ready md ops listed with
    | nil => exact absurd e h
    | cons x xs => simp)
  rw [List.getElem?_eq_getElem hlt]
  refine ⟨_, t / (Region.ready md ops listed).length, List.getElem_mem hlt, ?_⟩
  simp only []
  rw [linearise_go_acc, List.reverse_singleton, List.singleton_append]
section draw
variable {ns : List Node} {n0 : Nat} {ρ0 : RMap} {K : List AV → AState → Prop}
theorem ready_none (hN : NodeOk P ops ns) {listed : Array Bool} (hs : listed.size = ops.size) (h : Region.ready .any ops listed = []) : ∀ i, i < ops.size → listed.getD i false = true := by
  intro i
  induction i using Nat.strongRecOn with
  | _ i ih =>
    intro hi
    cases hl : listed.getD i false
    · exfalso
      have hin : i < ns.length := by rw [hN.len]; exact hi
      obtain ⟨o, ho, _, _, _, _, _, haft⟩ := hN.node i _ (List.getElem?_eq_getElem hin)
      have : i ∈ Region.ready .any ops listed := by
        rw [mem_ready]
        refine ⟨?_, o, ho, fun e he hbn => ?_⟩
        · have hi' : i < listed.size := by omega
          simp [Array.getD, hi'] at hl ⊢; exact hl
        · have hm : e.on ∈ ns[i].aft := by
            rw [haft]
            exact List.mem_map.2 ⟨e, List.mem_filter.2 ⟨by simpa using he, hbn⟩, rfl⟩
          have hlt := hN.back i _ e.on (List.getElem?_eq_getElem hin) hm
          exact ih e.on hlt (by omega)
      rw [h] at this; simp at this
    · rfl
theorem draw_go (hN : NodeOk P ops ns) {b : Frame} {k : List Item} {cs : List Frame} {ds : List Deferred} : ∀ (fuel t : Nat) (us : List Nat) (R2 : List Nat) (mask : Nat) (last : Option Nat) (fl : List (Nat × Node)) (listed : Array Bool) (al : Nat → Nat) (ts : List AV) (tm : Array Value) (σ : AState) (ρ : RMap) (w : World),
    Inv Rs P w0 D K ops ns n0 ρ0 R2 mask last fl listed al ts tm σ ρ w → (∀ i, i < ops.size → listed.getD i false = false → i ∈ us) → us.length ≤ fuel →
    ∃ ts' σ' ρ' tm' w', K ts' σ' ∧ n0 ≤ σ'.next ∧ RX n0 ρ0 ρ' ∧ TRel ρ' ts' tm' ∧ SRel Rs P w0 ρ' D σ' w' ∧
      Steps P (lone (b.atR ⟨tm, ds⟩ (.inRegion ops (Region.linearise.go .any ops fuel t listed []) :: k)) cs w) (lone (b.atR ⟨tm', ds⟩ k) cs w') := by
  intro fuel
  induction fuel with
  | zero =>
    intro t us R2 mask last fl listed al ts tm σ ρ w h hus hlen
    have hu : us = [] := List.length_eq_zero_iff.1 (by omega)
    have hall : ∀ i, i < ops.size → listed.getD i false = true := fun i hi => by
      cases e : listed.getD i false
      · have := hus i hi e; rw [hu] at this; simp at this
      · rfl
    have hr : Region.ready .any ops listed = [] := by
      rw [List.eq_nil_iff_forall_not_mem]
      intro j hj
      obtain ⟨hj1, o, ho, _⟩ := mem_ready.1 hj
      have hjs := (Array.getElem?_eq_some_iff.1 ho).1
      have := hall j hjs
      have hj' : j < listed.size := by rw [h.lsz]; exact hjs
      simp [Array.getD, hj'] at this hj1
      rw [this] at hj1; cases hj1
    have hR : R2 = [] := by
      cases R2 with
      | nil => rfl
      | cons y Rr =>
        obtain ⟨ny, hy, hm, _⟩ := chkR_cons h.chk
        have := h.sub y (hall y (by rw [← hN.len]; exact (List.getElem?_eq_some_iff.1 hy).1))
        rw [hm] at this; cases this
    subst hR
    have hwp : K ts σ := h.wp
    rw [go_none hr]
    refine ⟨ts, σ, ρ, tm, w, hwp, h.n0le, h.rx, ⟨h.len, fun t => h.rel t ?_⟩, h.srel, .one stepR_region_end⟩
    rintro ⟨i, nd, hi, hmi, hli, _⟩
    have := hall i (by rw [← hN.len]; exact (List.getElem?_eq_some_iff.1 hi).1)
    rw [hli] at this; cases this
  | succ fuel ih =>
    intro t us R2 mask last fl listed al ts tm σ ρ w h hus hlen
    by_cases hr : Region.ready .any ops listed = []
    · have hall := ready_none hN h.lsz hr
      have hR : R2 = [] := by
        cases R2 with
        | nil => rfl
        | cons y Rr =>
          obtain ⟨ny, hy, hm, _⟩ := chkR_cons h.chk
          have := h.sub y (hall y (by rw [← hN.len]; exact (List.getElem?_eq_some_iff.1 hy).1))
          rw [hm] at this; cases this
      subst hR
      have hwp : K ts σ := h.wp
      rw [go_none hr]
      refine ⟨ts, σ, ρ, tm, w, hwp, h.n0le, h.rx, ⟨h.len, fun t => h.rel t ?_⟩, h.srel, .one stepR_region_end⟩
      rintro ⟨i, nd, hi, hmi, hli, _⟩
      have := hall i (by rw [← hN.len]; exact (List.getElem?_eq_some_iff.1 hi).1)
      rw [hli] at this; cases this
    · obtain ⟨x, t', hx, hgo⟩ := go_some (fuel := fuel) (t := t) hr
      rw [hgo]
      obtain ⟨hx1, o, ho, hedge⟩ := mem_ready.1 hx
      have hxs : x < ops.size := (Array.getElem?_eq_some_iff.1 ho).1
      have hxn : x < ns.length := by rw [hN.len]; exact hxs
      have hxl : listed.getD x false = false := by
        have hx' : x < listed.size := by rw [h.lsz]; exact hxs
        simp [Array.getD, hx'] at hx1 ⊢; exact hx1
      have hnx : ns[x]? = some ns[x] := List.getElem?_eq_getElem hxn
      obtain ⟨o', ho', _, _, _, _, _, haft⟩ := hN.node x _ hnx
      rw [ho] at ho'; cases ho'
      have hb : ∀ j, ns[x].bef.testBit j = true → listed.getD j false = true := by
        intro j hj
        obtain ⟨e, he, hje⟩ := hN.bef x _ j hnx hj
        rw [haft] at he
        obtain ⟨ed, hed, rfl⟩ := List.mem_map.1 he
        obtain ⟨hed, hbn⟩ := List.mem_filter.1 hed
        have hl := hedge ed (by simpa using hed) hbn
        rcases hje with hje | hje
        · rw [hje]; exact hl
        · unfold befOf at hje
          split at hje
          · rename_i ne hne; exact h.down _ ne j hne hl hje
          · simp at hje
      have hus' : ∀ i, i < ops.size → (listed.setIfInBounds x true).getD i false = false → i ∈ us.erase x := fun i hi hli => by
        obtain ⟨a, b⟩ := getD_unset (by rw [h.lsz]; exact hxs) hli
        exact (List.mem_erase_of_ne b).2 (hus i hi a)
      have hxu := hus x hxs hxl
      have hlen' : (us.erase x).length ≤ fuel := by rw [List.length_erase_of_mem hxu]; omega
      have main : ∀ (R2 : List Nat) (mask : Nat) (last : Option Nat) (fl : List (Nat × Node)) (al : Nat → Nat) (ts : List AV) (σ : AState), Inv Rs P w0 D K ops ns n0 ρ0 R2 mask last fl listed al ts tm σ ρ w → mask.testBit x = true →
          ∃ ts' σ' ρ' tm' w', K ts' σ' ∧ n0 ≤ σ'.next ∧ RX n0 ρ0 ρ' ∧ TRel ρ' ts' tm' ∧ SRel Rs P w0 ρ' D σ' w' ∧
            Steps P (lone (b.atR ⟨tm, ds⟩ (.inRegion ops (x :: Region.linearise.go .any ops fuel t' (listed.setIfInBounds x true) []) :: k)) cs w) (lone (b.atR ⟨tm', ds⟩ k) cs w') := by
        intro R2 mask last fl al ts σ h hm
        obtain ⟨tm1, ρ1, w1, h1, hst⟩ := h.late (b := b) (k := k) (cs := cs) (ds := ds) (rest := Region.linearise.go .any ops fuel t' (listed.setIfInBounds x true) []) hN hnx hm hxl hb
        obtain ⟨ts2, σ2, ρ2, tm2, w2, hK, hn, hrx, hT, hS, hst2⟩ := ih t' (us.erase x) _ _ _ _ _ _ _ _ _ _ _ h1 hus' hlen'
        exact ⟨ts2, σ2, ρ2, tm2, w2, hK, hn, hrx, hT, hS, Steps.trans hst hst2⟩
      cases hmx : mask.testBit x
      · have hxR := (chkR_done h.chk x hxn).resolve_left (by rw [hmx]; simp)
        obtain ⟨Rr, mask1, last1, fl1, al1, ts1, σ1, h1⟩ := Inv.bring hN hnx R2 mask last fl al ts σ h hxR hb
        by_cases hc : ns[x].cls = 3
        · obtain ⟨mask2, last2, ts2, tm2, σ2, ρ2, w2, h2, hst⟩ := h1.loudStep (b := b) (k := k) (cs := cs) (ds := ds) (rest := Region.linearise.go .any ops fuel t' (listed.setIfInBounds x true) []) hN hnx hc hb
          obtain ⟨ts3, σ3, ρ3, tm3, w3, hK, hn, hrx, hT, hS, hst2⟩ := ih t' (us.erase x) _ _ _ _ _ _ _ _ _ _ _ h2 hus' hlen'
          exact ⟨ts3, σ3, ρ3, tm3, w3, hK, hn, hrx, hT, hS, Steps.trans hst hst2⟩
        · obtain ⟨mask2, last2, fl2, al2, ts2, σ2, h2, hmask⟩ := h1.advance hN hnx hc
          exact main _ _ _ _ _ _ _ h2 (by rw [hmask]; exact (tb _ _ _).2 (.inr rfl))
      · exact main _ _ _ _ _ _ _ h hmx
end draw
theorem draw_sound {b : Frame} {k : List Item} {cs : List Frame} {ds : List Deferred} {ops : Array Oper} {its : List It} {ts : List AV} {tm : Array Value} {K : List AV → AState → Prop} {id : Nat} (hmix : P.follows .mixedOrders = true)
    (hits : resDraw P ops = some its) (h : wpIts Rs P its ts σ K) (hT : TRel ρ ts tm) (hS : SRel Rs P w0 ρ D σ w) :
    RegOut Rs P w0 ρ D σ.next K (lone (b.atR ⟨tm, ds⟩ (.code (.region id ops true) :: k)) cs w) b k cs ds := by
  unfold resDraw at hits
  split at hits
  · cases hits
  rename_i its0 hits0
  simp only at hits
  split at hits
  case isFalse => cases hits
  rename_i hchk
  obtain ⟨hlen, hR, hH, hB⟩ := hchk
  injection hits with hits
  have hN := nodeOk hits0 rfl hlen hH hB
  have hl0 : ∀ i, (Array.replicate ops.size false).getD i false = false := fun i => by simp [Array.getD]
  have hS' : SRel Rs P w0 ρ D σ { w with drawn := w.drawn + 1 } := hS.garbage ⟨rfl, rfl, rfl, Nat.le_refl _, fun _ _ => rfl⟩
  have hz : ∀ i : Nat, ¬ ((0 : Nat).testBit i = true) := fun i => by simp
  have inv : Inv Rs P w0 D K ops (nodes its0 ops.toList (Region.before ops).toList) σ.next ρ _ 0 none [] (Array.replicate ops.size false) (fun _ => 0) ts tm σ ρ { w with drawn := w.drawn + 1 } := {
    chk := hR
    mlt := fun i hi => absurd hi (hz i)
    mdown := fun i nd j _ hi => absurd hi (hz i)
    lsz := by simp
    sub := fun i hi => by rw [hl0] at hi; cases hi
    down := fun i nd j _ hi => by rw [hl0] at hi; cases hi
    loud := fun i nd _ hi => absurd hi (hz i)
    flo := fun i nd _ hi => absurd hi (hz i)
    len := hT.1
    rel := fun t _ => hT.2 t
    srel := hS'
    pend := fun i nd _ hi => absurd hi (hz i)
    dist := fun i j ni nj _ _ _ hi => absurd hi (hz i)
    n0le := Nat.le_refl _
    rx := RX.refl _ _
    wp := by rw [hits]; exact h }
  obtain ⟨ts', σ', ρ', tm', w', hK, hn, hrx, hT', hS2, hst⟩ := draw_go (b := b) (k := k) (cs := cs) (ds := ds) hN ops.size (w.tape w.drawn (.order b.fn id)) (List.range ops.size) _ _ _ _ _ _ _ _ _ _ _ inv (fun i hi _ => List.mem_range.2 hi) (by simp)
  refine ⟨ts', σ', ρ', tm', w', hK, hn, hrx, hT', hS2, .head stepR_region_draw ?_⟩
  simp only [Region.schedule, hmix, Bool.true_or, if_true]
  exact hst
end Go.Am
namespace Go.Am
open Go.RowKit
abbrev RsOf (P : Program) : Code → AC → Prop := fun c a => resC P c = some a
def marksOf (l : List Nat) : List Deferred := l.map fun r => { target := .collected r, args := #[] }
def Arr (P : Program) (m : Machine) (b : Frame) (k : List Item) (cs : List Frame) : Ex → Act → World → Prop
  | .normal, a, w => Steps P m (lone (b.atR a k) cs w)
  | .exit id, a, w => ∃ k1, exitTo id k1 = exitTo id k ∧ Steps P m (lone (b.atR a (.code (.exit id) :: k1)) cs w)
  | .ret, a, w => ∃ k1, Steps P m (lone (b.atR a (.code .ret :: k1)) cs w)
theorem Arr.of_steps {P : Program} {m m1 : Machine} {b : Frame} {k : List Item} {cs : List Frame} {e : Ex} {a : Act} {w : World} (h : Steps P m m1) (h' : Arr P m1 b k cs e a w) : Arr P m b k cs e a w := by
  cases e with
  | normal => exact h.trans h'
  | exit id => obtain ⟨k1, h1, h2⟩ := h'; exact ⟨k1, h1, h.trans h2⟩
  | ret => obtain ⟨k1, h2⟩ := h'; exact ⟨k1, h.trans h2⟩
section
variable {P : Program} {w0 : World}
def CodeOut (P : Program) (w0 : World) (ρ : RMap) (D : List Nat × List Nat) (n : Nat) (Q : Ex → List AV → AState → Prop) (m : Machine) (b : Frame) (k : List Item) (cs : List Frame) (ds : List Deferred) : Prop :=
  ∃ e ts' σ' ρ' ms tm' w', Q e ts' σ' ∧ n ≤ σ'.next ∧ RX n ρ ρ' ∧ TRel ρ' ts' tm' ∧ SRel (RsOf P) P w0 ρ' (ms ++ D.1, D.2) σ' w' ∧ Arr P m b k cs e ⟨tm', marksOf ms ++ ds⟩ w'
theorem SRel.addDef {Rs : Code → AC → Prop} {ρ : RMap} {D : List Nat × List Nat} {σ : AState} {w : World} (h : SRel Rs P w0 ρ D σ w) : SRel Rs P w0 ρ (w.heap.size :: D.1, D.2) σ (w.alloc (.deferred (some []))) := by
  have hb : Below w.heap.size w (w.alloc (.deferred (some []))) := (Below.refl _ _).alloc (Nat.le_refl _) _
  have h' := h.garbage hb
  refine { h' with defs := fun d hd => ?_, nodup := ?_ }
  · rcases List.mem_cons.1 hd with rfl | hd
    · exact ⟨h.below.size, by show (w.heap.push _)[w.heap.size]? = _; simp⟩
    · exact h'.defs d hd
  · refine List.nodup_cons.2 ⟨fun hm => ?_, h.nodup⟩
    exact absurd (lt_of_some (h.defs _ hm).2) (Nat.lt_irrefl _)
theorem SRel.addLoop {Rs : Code → AC → Prop} {ρ : RMap} {D : List Nat × List Nat} {σ : AState} {w : World} {i : Nat} {b : ABlk} {m : Loc} (h : SRel Rs P w0 ρ D σ w) (hi : σ.get i = some b) (hm : ρ i = some m) (hl : ∃ st pe ts ps az bo, b = .loop st pe ts ps az bo) :
    SRel Rs P w0 ρ (D.1, m.blk :: D.2) σ w := by
  obtain ⟨st, pe, ts, ps, az, bo, rfl⟩ := hl
  obtain ⟨h1, r, h2, _⟩ := h.blk i _ m hi hm
  refine { h with loops := fun d hd => ?_ }
  rcases List.mem_cons.1 hd with rfl | hd
  · exact ⟨h1, r, h2⟩
  · exact h.loops d hd
theorem SRel.lessLoop {Rs : Code → AC → Prop} {ρ : RMap} {D : List Nat × List Nat} {σ : AState} {w : World} {l : Nat} (h : SRel Rs P w0 ρ (D.1, l :: D.2) σ w) : SRel Rs P w0 ρ D σ w :=
  { h with loops := fun d hd => h.loops d (List.mem_cons_of_mem _ hd) }
theorem wpC_sound (hmix : P.follows .mixedOrders = true) : ∀ (c : Code) (ac : AC), resC P c = some ac → ∀ (ts : List AV) (σ : AState) (Q : Ex → List AV → AState → Prop), wpC (RsOf P) P ac ts σ Q →
    ∀ (ρ : RMap) (D : List Nat × List Nat) (b : Frame) (ds : List Deferred) (k : List Item) (cs : List Frame) (tm : Array Value) (w : World), (∀ l, b.roundOf = some l → l ∈ D.2) → TRel ρ ts tm → SRel (RsOf P) P w0 ρ D σ w →
      CodeOut P w0 ρ D σ.next Q (lone (b.atR ⟨tm, ds⟩ (.code c :: k)) cs w) b k cs ds := by
  intro c
  induction c with
  | skip =>
    intro ac hres ts σ Q h ρ D b ds k cs tm w hro hT hS
    simp only [resC, Option.some.injEq] at hres; subst hres
    exact ⟨.normal, ts, σ, ρ, [], tm, w, h, Nat.le_refl _, RX.refl _ _, hT, hS, .one stepR_skip⟩
  | region id ops draw =>
    intro ac hres ts σ Q h ρ D b ds k cs tm w hro hT hS
    cases draw with
    | false =>
      simp only [resC, Option.map_eq_some_iff] at hres
      obtain ⟨its, hits, rfl⟩ := hres
      obtain ⟨ts', σ', ρ', tm', w', hK, hn, hx, hT', hS', hst⟩ := its_sound (b := b) (k := k) (cs := cs) (ds := ds) hits h hT hS
      exact ⟨.normal, ts', σ', ρ', [], tm', w', hK, hn, hx, hT', hS', .head stepR_region hst⟩
    | true =>
      simp only [resC, Option.map_eq_some_iff] at hres
      obtain ⟨its, hits, rfl⟩ := hres
      obtain ⟨ts', σ', ρ', tm', w', hK, hn, hx, hT', hS', hst⟩ := draw_sound (b := b) (k := k) (cs := cs) (ds := ds) hmix (id := id) hits h hT hS
      exact ⟨.normal, ts', σ', ρ', [], tm', w', hK, hn, hx, hT', hS', hst⟩
  | seq x y ihx ihy =>
    intro ac hres ts σ Q h ρ D b ds k cs tm w hro hT hS
    simp only [resC] at hres
    split at hres
    case h_2 => cases hres
    rename_i ax ay hax hay
    injection hres with hres; subst hres
    obtain ⟨e, ts1, σ1, ρ1, ms1, tm1, w1, hQ1, hn1, hx1, hT1, hS1, harr1⟩ := ihx ax hax ts σ _ h ρ D b ds (.code y :: k) cs tm w hro hT hS
    cases e with
    | normal =>
      obtain ⟨e2, ts2, σ2, ρ2, ms2, tm2, w2, hQ2, hn2, hx2, hT2, hS2, harr2⟩ := ihy ay hay ts1 σ1 Q hQ1 ρ1 (ms1 ++ D.1, D.2) b (marksOf ms1 ++ ds) k cs tm1 w1 hro hT1 hS1
      refine ⟨e2, ts2, σ2, ρ2, ms2 ++ ms1, tm2, w2, hQ2, Nat.le_trans hn1 hn2, hx1.trans hx2 hn1, hT2, by rw [List.append_assoc]; exact hS2, ?_⟩
      have : marksOf (ms2 ++ ms1) ++ ds = marksOf ms2 ++ (marksOf ms1 ++ ds) := by simp [marksOf]
      rw [this]
      exact .of_steps (.head stepR_seq harr1) harr2
    | exit i => exact ⟨_, ts1, σ1, ρ1, ms1, tm1, w1, hQ1, hn1, hx1, hT1, hS1, .of_steps (.one stepR_seq) harr1⟩
    | ret => exact ⟨_, ts1, σ1, ρ1, ms1, tm1, w1, hQ1, hn1, hx1, hT1, hS1, .of_steps (.one stepR_seq) harr1⟩
  | cond c x y ihx ihy =>
    intro ac hres ts σ Q h ρ D b ds k cs tm w hro hT hS
    simp only [resC] at hres
    split at hres
    case h_2 => cases hres
    rename_i cx ax ay hcx hax hay
    injection hres with hres; subst hres
    simp only [wpC] at h
    split at h
    case h_2 => exact h.elim
    rename_i t ht
    have hc := hS.evRel hT ds _ _ hcx
    rw [ht] at hc; simp only [VRel] at hc
    have hst := stepR_cond (P := P) (b := b) (a := ⟨tm, ds⟩) (k := k) (cs := cs) (w := w) (x := x) (y := y) hc
    cases t with
    | true =>
      obtain ⟨e, ts1, σ1, ρ1, ms1, tm1, w1, hQ1, hn1, hx1, hT1, hS1, harr1⟩ := ihx ax hax ts σ Q h ρ D b ds k cs tm w hro hT hS
      exact ⟨e, ts1, σ1, ρ1, ms1, tm1, w1, hQ1, hn1, hx1, hT1, hS1, .of_steps (.one hst) harr1⟩
    | false =>
      obtain ⟨e, ts1, σ1, ρ1, ms1, tm1, w1, hQ1, hn1, hx1, hT1, hS1, harr1⟩ := ihy ay hay ts σ Q h ρ D b ds k cs tm w hro hT hS
      exact ⟨e, ts1, σ1, ρ1, ms1, tm1, w1, hQ1, hn1, hx1, hT1, hS1, .of_steps (.one hst) harr1⟩
  | block id x ih =>
    intro ac hres ts σ Q h ρ D b ds k cs tm w hro hT hS
    simp only [resC, Option.map_eq_some_iff] at hres
    obtain ⟨ax, hax, rfl⟩ := hres
    obtain ⟨e, ts1, σ1, ρ1, ms1, tm1, w1, hQ1, hn1, hx1, hT1, hS1, harr1⟩ := ih ax hax ts σ _ h ρ D b ds (.inBlock id :: k) cs tm w hro hT hS
    cases e with
    | normal => exact ⟨.normal, ts1, σ1, ρ1, ms1, tm1, w1, hQ1, hn1, hx1, hT1, hS1, .head stepR_block (Steps.trans harr1 (.one stepR_inBlock))⟩
    | exit i =>
      obtain ⟨k1, hk1, hst⟩ := harr1
      by_cases hi : i = id
      · subst hi
        simp only [if_true] at hQ1
        have hk : exitTo i k1 = some k := by rw [hk1]; simp [exitTo]
        exact ⟨.normal, ts1, σ1, ρ1, ms1, tm1, w1, hQ1, hn1, hx1, hT1, hS1, .head stepR_block (Steps.trans hst (.one (stepR_exit hk)))⟩
      · simp only [hi, if_false] at hQ1
        have hk : exitTo i k1 = exitTo i k := by
          rw [hk1]
          have : (id == i) = false := by simp; exact fun e => hi e.symm
          simp [exitTo, this]
        exact ⟨.exit i, ts1, σ1, ρ1, ms1, tm1, w1, hQ1, hn1, hx1, hT1, hS1, k1, hk, .head stepR_block hst⟩
    | ret => exact ⟨.ret, ts1, σ1, ρ1, ms1, tm1, w1, hQ1, hn1, hx1, hT1, hS1, .of_steps (.one stepR_block) harr1⟩
  | loop x ih =>
    intro ac hres ts σ Q h ρ D b ds k cs tm w hro hT hS
    simp only [resC, Option.map_eq_some_iff] at hres
    obtain ⟨ax, hax, rfl⟩ := hres
    have key := h (fun ts σ => ∀ (ρ : RMap) (D : List Nat × List Nat) (ds : List Deferred) (tm : Array Value) (w : World), (∀ l, b.roundOf = some l → l ∈ D.2) → TRel ρ ts tm → SRel (RsOf P) P w0 ρ D σ w →
        CodeOut P w0 ρ D σ.next Q (lone (b.atR ⟨tm, ds⟩ (.code x :: .inLoop x :: k)) cs w) b k cs ds) (fun ts σ hx ρ D ds tm w hro hT hS => by
      obtain ⟨e, ts1, σ1, ρ1, ms1, tm1, w1, hQ1, hn1, hx1, hT1, hS1, harr1⟩ := ih ax hax ts σ _ hx ρ D b ds (.inLoop x :: k) cs tm w hro hT hS
      cases e with
      | normal =>
        obtain ⟨e2, ts2, σ2, ρ2, ms2, tm2, w2, hQ2, hn2, hx2, hT2, hS2, harr2⟩ := hQ1 ρ1 (ms1 ++ D.1, D.2) (marksOf ms1 ++ ds) tm1 w1 hro hT1 hS1
        refine ⟨e2, ts2, σ2, ρ2, ms2 ++ ms1, tm2, w2, hQ2, Nat.le_trans hn1 hn2, hx1.trans hx2 hn1, hT2, by rw [List.append_assoc]; exact hS2, ?_⟩
        have : marksOf (ms2 ++ ms1) ++ ds = marksOf ms2 ++ (marksOf ms1 ++ ds) := by simp [marksOf]
        rw [this]
        exact .of_steps (Steps.trans harr1 (.one stepR_inLoop)) harr2
      | exit i => exact ⟨_, ts1, σ1, ρ1, ms1, tm1, w1, hQ1, hn1, hx1, hT1, hS1, harr1⟩
      | ret => exact ⟨_, ts1, σ1, ρ1, ms1, tm1, w1, hQ1, hn1, hx1, hT1, hS1, harr1⟩)
    obtain ⟨e, ts1, σ1, ρ1, ms1, tm1, w1, hQ1, hn1, hx1, hT1, hS1, harr1⟩ := key ρ D ds tm w hro hT hS
    exact ⟨e, ts1, σ1, ρ1, ms1, tm1, w1, hQ1, hn1, hx1, hT1, hS1, .of_steps (.one stepR_loop) harr1⟩
  | rangeFunc f ps assign body iha ihb =>
    intro ac hres ts σ Q h ρ D b ds k cs tm w hro hT hS
    simp only [resC] at hres
    split at hres
    case h_2 => cases hres
    rename_i fx aa ab hfx haa hab
    injection hres with hres; subst hres
    simp only [wpC] at h
    obtain ⟨ms, w1, hw1, l, hl, mark, hmark, henter, hS1⟩ : ∃ (ms : List Nat) (w1 : World), Below w.heap.size w w1 ∧ ∃ l, l = w1.heap.size ∧ ∃ mark, mark = marksOf ms ∧
        (∃ dblk, (Instr.enterLoop b.fn tm ps assign body b.roundOf).run P w = .ok (l, mark) (w1.alloc (.loop { state := .ready, pending := none, fn := b.fn, tmps := tm, params := ps, assign, body, defers := dblk }))) ∧
        SRel (RsOf P) P w0 ρ (ms ++ D.1, D.2) σ w1 := by
      cases hb : b.roundOf with
      | none =>
        refine ⟨[w.heap.size], w.alloc (.deferred (some [])), (Below.refl _ _).alloc (Nat.le_refl _) _, w.heap.size + 1, by simp, _, rfl, ⟨w.heap.size, ?_⟩, hS.addDef⟩
        simp only [Instr.enterLoop, Sem.run_bind, run_newObj, Result.andThen_ok, Sem.run_pure, marksOf, List.map]
        rw [Array.size_push]
        rfl
      | some l0 =>
        obtain ⟨_, r0, hr0⟩ := hS.loops l0 (hro l0 hb)
        refine ⟨[], w, Below.refl _ _, w.heap.size, rfl, _, rfl, ⟨r0.defers, ?_⟩, hS⟩
        simp only [Instr.enterLoop, Instr.getLoop, Sem.run_bind, run_getObj hr0 (by intros; simp), run_newObj, Result.andThen_ok, Sem.run_pure, marksOf, List.map]
        rfl
    obtain ⟨dblk, henter⟩ := henter
    subst hl; subst hmark
    have hS2 : SRel (RsOf P) P w0 (upd ρ σ.next ⟨w1.heap.size, 0, 0⟩) (ms ++ D.1, D.2) (σ.push (.loop .ready none ts ps.toList aa ab)) (w1.alloc (.loop { state := .ready, pending := none, fn := b.fn, tmps := tm, params := ps, assign, body, defers := dblk })) :=
      hS1.push (below_push w1 _) (Nat.le_refl _) (by simp) ⟨hS1.below.size, { state := .ready, pending := none, fn := b.fn, tmps := tm, params := ps, assign, body, defers := dblk }, by show (w1.heap.push _)[w1.heap.size]? = _; simp, rfl, rfl, hT.mono (hS1.le_next _), rfl, haa, hab⟩
    have hrx : RX σ.next ρ (upd ρ σ.next ⟨w1.heap.size, 0, 0⟩) := hS1.rx _
    have hle := hS1.le_next ⟨w1.heap.size, 0, 0⟩
    obtain ⟨d, hd, hn⟩ := h w0 _ _ (({ tmps := tm, defers := ds } : Act).eval f) #[.func (.yield w1.heap.size) #[] #[]] _ (VRel.mono hle _ _ (hS.evRel hT ds _ _ hfx)) (.mk_cons (by simp only [VRel]; exact ⟨_, upd_same _ _ _, rfl⟩) .mk_nil) hS2
    obtain ⟨cv, w3, ⟨v, ρ3, σ3, hQ3, hn3, hx3, _, hS3⟩, hsteps⟩ : ∃ cv w3, After (RsOf P) P w0 (σ.push (.loop .ready none ts ps.toList aa ab)).next (upd ρ σ.next ⟨w1.heap.size, 0, 0⟩) (ms ++ D.1, D.2) (fun _ σ2 => match σ2.get σ.next with
          | some (.loop st pend _ _ _ _) => st ≠ .busy ∧ (match pend with
            | none => Q .normal ts (σ2.kill σ.next)
            | some e => Q e ts (σ2.kill σ.next))
          | _ => False) cv w3 ∧
        Steps P (lone (b.atR ⟨tm, ds⟩ (.code (.rangeFunc f ps assign body) :: k)) cs w) (lone (b.atR ⟨tm, marksOf ms ++ ds⟩ (.endRangeFunc w1.heap.size :: k)) cs w3) := by
      have hres : (resolve ({ tmps := tm, defers := ds } : Act).eval (rangeCall f w1.heap.size) 0).run P (w1.alloc (.loop { state := .ready, pending := none, fn := b.fn, tmps := tm, params := ps, assign, body, defers := dblk })) = .ok d (w1.alloc (.loop { state := .ready, pending := none, fn := b.fn, tmps := tm, params := ps, assign, body, defers := dblk })) := by
        simpa [resolve, rangeCall, Act.eval] using hd
      unfold NextOut at hn
      split at hn
      · rename_i v wv hv
        refine ⟨v, wv, hn, .one (step_lone_go ?_)⟩
        have hev := Frame.eval_atR b ⟨tm, marksOf ms ++ ds⟩ (.inRangeFunc w1.heap.size :: k)
        simp only [Frame.atR] at hev
        have hres' : Sem.run P (resolve ({ tmps := tm, defers := marksOf ms ++ ds } : Act).eval { callee := .value f, args := #[.const (.func (.yield w1.heap.size) #[] #[])], argTypes := #[] } 0) _ = .ok d _ := hres
        simp [stepG, stepG.exec, Frame.atR, Sem.runT_eq, henter, GStep.bare_after, stepG.apply, hev, Sem.run_bind, hres', hv, Result.andThen, Frame.finish]
      · rename_i g az wv hv
        obtain ⟨en, w2, fr, ⟨v, rfl, hR⟩, hc, _, hl⟩ := hn (b.atR ⟨tm, marksOf ms ++ ds⟩ (.inRangeFunc w1.heap.size :: k) :: cs)
        refine ⟨v, w2, hR, .head (stepR_rangeFunc henter hres hv) (Steps.trans hc (.one ?_))⟩
        rw [← finish_atR_inRangeFunc]; exact step_leave_returned hl
      · rename_i l' g tmps' az' bo' wv hv
        obtain ⟨v, w2, hR, hs⟩ := hn (b.atR ⟨tm, marksOf ms ++ ds⟩ (.inRangeFunc w1.heap.size :: k)) cs
        refine ⟨v, w2, hR, .head (step_lone_go ?_) (by rw [← finish_atR_inRangeFunc (v := v)]; exact hs)⟩
        have hev := Frame.eval_atR b ⟨tm, marksOf ms ++ ds⟩ (.inRangeFunc w1.heap.size :: k)
        simp only [Frame.atR] at hev
        have hres' : Sem.run P (resolve ({ tmps := tm, defers := marksOf ms ++ ds } : Act).eval { callee := .value f, args := #[.const (.func (.yield w1.heap.size) #[] #[])], argTypes := #[] } 0) _ = .ok d _ := hres
        simp [stepG, stepG.exec, Frame.atR, Sem.runT_eq, henter, GStep.bare_after, stepG.apply, hev, Sem.run_bind, hres', hv, Result.andThen]
      · exact hn.elim
    have hρ3 : ρ3 σ.next = some ⟨w1.heap.size, 0, 0⟩ := by rw [hx3 σ.next (Nat.lt_succ_self _)]; exact upd_same _ _ _
    split at hQ3
    case h_2 => exact hQ3.elim
    rename_i st pend ts3 ps3 as3 bo3 hg3
    obtain ⟨hb3, r3, hr3, hst3, hpend3, _⟩ := hS3.blk _ _ _ hg3 hρ3
    have hS4 := hS3.setObj (b' := .loop .exhausted pend ts3 ps3 as3 bo3) (o := .loop { r3 with state := .exhausted }) hg3 rfl hρ3 (by rw [hr3]; simp) (fun r hr => ⟨_, rfl⟩) hb3 (by
      obtain ⟨_, r3', hr3', _, hp', ht', hps', ha', hbo'⟩ := hS3.blk _ _ _ hg3 hρ3
      rw [hr3] at hr3'; cases hr3'
      exact ⟨hb3, { r3 with state := .exhausted }, by simp [Array.getElem?_setIfInBounds_self_of_lt (lt_of_some hr3)], rfl, hp', ht', hps', ha', hbo'⟩)
    have hS5 := hS4.kill σ.next
    have hkill : (σ3.set σ.next (.loop .exhausted pend ts3 ps3 as3 bo3)).kill σ.next = σ3.kill σ.next := by
      unfold AState.kill AState.set
      congr 1
      funext j
      by_cases hj : j = σ.next <;> simp [hj]
    rw [hkill] at hS5
    have hend : (Instr.endLoop w1.heap.size).run P w3 = .ok r3.pending { w3 with heap := w3.heap.setIfInBounds w1.heap.size (.loop { r3 with state := .exhausted }) } := by
      have hbz : (r3.state == LoopState.busy) = false := by rw [hst3]; cases st <;> first | rfl | exact absurd rfl hQ3.1
      simp only [Instr.endLoop, Instr.getLoop, Sem.run_bind, run_getObj hr3 (by intros; simp), Result.andThen_ok, Sem.run_pure, hbz, Bool.false_eq_true, if_false, run_setObj hr3 (by intros; simp)]
    have hT3 : TRel ρ3 ts tm := hT.mono (fun i l e => by
      have hi : i < σ.next := by
        rcases Nat.lt_or_ge i σ.next with h | h
        · exact h
        · rw [(hS.dom i h).1] at e; cases e
      rw [hx3 i (Nat.lt_succ_of_lt hi), upd_ne _ _ (by omega)]; exact e)
    have hxf : RX σ.next ρ ρ3 := fun j hj => by rw [hx3 j (Nat.lt_succ_of_lt hj), upd_ne _ _ (by omega)]
    have hnf : σ.next ≤ (σ3.kill σ.next).next := Nat.le_trans (Nat.le_succ _) hn3
    have hstep : ∀ jump, r3.pending = jump → step P (lone (b.atR ⟨tm, marksOf ms ++ ds⟩ (.endRangeFunc w1.heap.size :: k)) cs w3) = .next (lone (b.atR ⟨tm, marksOf ms ++ ds⟩ ((jump.map Item.code).toList ++ k)) cs { w3 with heap := w3.heap.setIfInBounds w1.heap.size (.loop { r3 with state := .exhausted }) }) := fun jump hj =>
      stepR_endRangeFunc (P := P) (b := b) (a := ⟨tm, marksOf ms ++ ds⟩) (k := k) (cs := cs) (hend.trans (congrArg (fun j => Result.ok j _) hj))
    have hQ4 := hQ3.2
    cases pend with
    | none =>
      have hp : r3.pending = none := hpend3
      exact ⟨.normal, ts, _, ρ3, ms, tm, _, hQ4, hnf, hxf, hT3, hS5, Steps.trans hsteps (.one (hstep _ hp))⟩
    | some e =>
      obtain ⟨hne, hp⟩ := hpend3
      cases e with
      | normal => exact absurd rfl hne
      | exit i => exact ⟨.exit i, ts, _, ρ3, ms, tm, _, hQ4, hnf, hxf, hT3, hS5, k, rfl, Steps.trans hsteps (.one (hstep _ hp))⟩
      | ret => exact ⟨.ret, ts, _, ρ3, ms, tm, _, hQ4, hnf, hxf, hT3, hS5, k, Steps.trans hsteps (.one (hstep _ hp))⟩
  | exit id =>
    intro ac hres ts σ Q h ρ D b ds k cs tm w hro hT hS
    simp only [resC, Option.some.injEq] at hres; subst hres
    exact ⟨.exit id, ts, σ, ρ, [], tm, w, h, Nat.le_refl _, RX.refl _ _, hT, hS, k, rfl, .refl _ _⟩
  | ret =>
    intro ac hres ts σ Q h ρ D b ds k cs tm w hro hT hS
    simp only [resC, Option.some.injEq] at hres; subst hres
    exact ⟨.ret, ts, σ, ρ, [], tm, w, h, Nat.le_refl _, RX.refl _ _, hT, hS, k, .refl _ _⟩
  | _ =>
    intro ac hres ts σ Q h ρ D b ds k cs tm w hro hT hS
    simp only [resC, Option.some.injEq] at hres; subst hres
    exact h.elim
end
end Go.Am
namespace Go.Am
open Go.RowKit
def resR (P : Program) : List ResultVar → Option (List (Nat × Option (Option Nat)))
  | [] => some []
  | .tmp t :: r => (resR P r).map ((t, none) :: ·)
  | .cell a t :: r => match ldKind P t, resR P r with
    | some k, some l => some ((a, some k) :: l)
    | _, _ => none
def resultA (g : Nat → Option ABlk) (ts : List AV) : List (Nat × Option (Option Nat)) → Option (List AV)
  | [] => some []
  | (t, none) :: r => (resultA g ts r).map (ts.getD t U :: ·)
  | (a, some k) :: r => match ts.getD a U with
    | .ptr (some (i, o)) => match g i with
      | some (.cells l _) => match partA l o k, resultA g ts r with
        | some v, some vs => some (v :: vs)
        | _, _ => none
      | _ => none
    | _ => none
def oneOf : List AV → AV
  | [v] => v
  | vs => .tuple vs
structure AFunc where
  ntmps : Nat
  results : List (Nat × Option (Option Nat))
  body : AC
def resF (P : Program) (f : Nat) : Option AFunc :=
  match P.funcs[f]? with
  | some fn => match fn.body with
    | some c => match resC P c, resR P fn.results.toList with
      | some a, some r => if fn.name = "runtime.NumGoroutine" then none else some { ntmps := fn.ntmps, results := r, body := a }
      | _, _ => none
    | none => none
  | none => none
section
variable {P : Program} {w0 w : World} {ρ : RMap} {D : List Nat × List Nat} {σ : AState}
theorem SRel.dropDef {Rs : Code → AC → Prop} {d : Nat} (h : SRel Rs P w0 ρ (d :: D.1, D.2) σ w) : SRel Rs P w0 ρ D σ { w with heap := w.heap.setIfInBounds d (.deferred none) } := by
  obtain ⟨hbd, hd⟩ := h.defs d (by simp)
  have hlt := lt_of_some hd
  have hoth : ∀ k, k ≠ d → (w.heap.setIfInBounds d (.deferred none))[k]? = w.heap[k]? := fun k hk => by rw [Array.getElem?_setIfInBounds_ne (Ne.symm hk)]
  have hnd := List.nodup_cons.1 h.nodup
  exact {
    below := h.below.trans ⟨rfl, rfl, rfl, by simp, fun k hk => hoth k (by omega)⟩
    dom := h.dom
    lt := fun i l e => by simpa using h.lt i l e
    blk := fun i b l e1 e2 => by
      by_cases hl : l.blk = d
      · have hb := h.blk i b l e1 e2
        cases b with
        | cells x wr =>
          obtain ⟨h1, h2, h3⟩ := hb
          have hnone : ∀ k, w.cell? ⟨l.blk, k, none⟩ = none := fun k => by simp [World.cell?, hl, hd]
          refine ⟨h1, fun k y e => ?_, fun e => ⟨(h3 e).1, fun k hk => ?_⟩⟩
          · obtain ⟨z, hz, _⟩ := h2 k y e; rw [hnone] at hz; cases hz
          · obtain ⟨⟨z, hz⟩, _⟩ := (h3 e).2 k hk; rw [hnone] at hz; cases hz
        | map es => obtain ⟨_, c, cl, hh, _⟩ := hb; rw [hl, hd] at hh; cases hh
        | iter s p => obtain ⟨_, _, bs, hh, _⟩ := hb; rw [hl, hd] at hh; cases hh
        | loop st pe ts ps a b => obtain ⟨_, r, hh, _⟩ := hb; rw [hl, hd] at hh; cases hh
      · exact (h.blk i b l e1 e2).keep (RLe.refl _) (hoth _ hl)
    sep := h.sep
    defs := fun x hx => by
      obtain ⟨h1, h2⟩ := h.defs x (List.mem_cons_of_mem _ hx)
      refine ⟨h1, ?_⟩
      show (w.heap.setIfInBounds d _)[x]? = _
      rw [hoth x (by intro e; subst e; exact hnd.1 hx)]; exact h2
    nodup := hnd.2
    loops := fun x hx => by
      obtain ⟨h1, r, h2⟩ := h.loops x hx
      refine ⟨h1, r, ?_⟩
      show (w.heap.setIfInBounds d _)[x]? = _
      rw [hoth x (by intro e; subst e; rw [hd] at h2; cases h2)]; exact h2
    glob := h.glob }
theorem unwind_marks {Rs : Code → AC → Prop} (fr : Frame) (cs : List Frame) (hm : fr.mode = .returning) : ∀ (ms : List Nat) (w : World), SRel Rs P w0 ρ (ms ++ D.1, D.2) σ w →
    ∃ w', Steps P (lone { fr with defers := marksOf ms } cs w) (lone { fr with defers := [] } cs w') ∧ SRel Rs P w0 ρ D σ w'
  | [], w, h => ⟨w, .refl _ _, h⟩
  | d :: ms, w, h => by
    have hd := (h.defs d (by simp)).2
    have h' : SRel Rs P w0 ρ (ms ++ D.1, D.2) σ { w with heap := w.heap.setIfInBounds d (.deferred none) } := SRel.dropDef (D := (ms ++ D.1, D.2)) h
    obtain ⟨w', hst, hS⟩ := unwind_marks fr cs hm ms _ h'
    refine ⟨w', .head (step_lone_go ?_) hst, hS⟩
    have htake : (Instr.takeDeferred d).run P w = .ok [] { w with heap := w.heap.setIfInBounds d (.deferred none) } := by
      simp [Instr.takeDeferred, run_getObj hd, run_setObj hd]
    simp [stepG, hm, marksOf, unwind, Sem.runT_eq, htake, GStep.bare_after]
def resVal (tm : Array Value) : ResultVar → Sem Value
  | .tmp t => Pure.pure (tm.getD t undef)
  | .cell a t => do loadVar t (← asAddr (tm.getD a undef))
theorem results_eq (fn : Func) (tm : Array Value) : results fn tm = (do let vs ← fn.results.mapM (resVal tm); Pure.pure (if h : vs.size = 1 then vs[0] else .tuple vs)) := by
  unfold results
  congr 1
theorem resultA_ok {Rs : Code → AC → Prop} {ts : List AV} {tm : Array Value} (h : SRel Rs P w0 ρ D σ w) (hT : TRel ρ ts tm) : ∀ {l : List ResultVar} {rs : List (Nat × Option (Option Nat))} {vs : List AV}, resR P l = some rs → resultA σ.get ts rs = some vs →
    ∃ cs, (l.mapM (resVal tm)).run P w = .ok cs w ∧ VRelL ρ vs cs
  | [], rs, vs, hr, hv => by
    simp only [resR, Option.some.injEq] at hr; subst hr
    simp only [resultA, Option.some.injEq] at hv; subst hv
    exact ⟨[], rfl, .mk_nil⟩
  | .tmp t :: l, rs, vs, hr, hv => by
    simp only [resR, Option.map_eq_some_iff] at hr
    obtain ⟨r, hr, rfl⟩ := hr
    simp only [resultA, Option.map_eq_some_iff] at hv
    obtain ⟨u, hu, rfl⟩ := hv
    obtain ⟨cs, h1, h2⟩ := resultA_ok h hT hr hu
    exact ⟨_ :: cs, by simp only [List.mapM_cons, resVal, Sem.run_bind, Sem.run_pure, Result.andThen_ok, h1], .mk_cons (hT.2 t) h2⟩
  | .cell a t :: l, rs, vs, hr, hv => by
    simp only [resR] at hr
    split at hr
    case h_2 => cases hr
    rename_i k r hk hr'
    injection hr with hr; subst hr
    simp only [resultA] at hv
    split at hv
    case h_2 => cases hv
    rename_i i o ha
    split at hv
    case h_2 => cases hv
    rename_i x wr hg
    split at hv
    case h_2 => cases hv
    rename_i v us hp hus
    injection hv with hv; subst hv
    obtain ⟨cs, h1, h2⟩ := resultA_ok h hT hr' hus
    have hta := hT.2 a
    rw [ha] at hta; simp only [VRel] at hta
    obtain ⟨m, hm, hta⟩ := hta
    obtain ⟨cv, h3, h4⟩ := run_loadVar h hk hg hm hp
    exact ⟨cv :: cs, by simp only [List.mapM_cons, resVal, Sem.run_bind, Sem.run_pure, Result.andThen_ok, hta, asAddr, h3, h1], .mk_cons h4 h2⟩
theorem run_results {Rs : Code → AC → Prop} {ts : List AV} {tm : Array Value} {fn : Func} {rs : List (Nat × Option (Option Nat))} {vs : List AV} (h : SRel Rs P w0 ρ D σ w) (hT : TRel ρ ts tm) (hr : resR P fn.results.toList = some rs) (hv : resultA σ.get ts rs = some vs) :
    ∃ cv, (results fn tm).run P w = .ok cv w ∧ VRel ρ (oneOf vs) cv := by
  obtain ⟨cs, h1, h2⟩ := resultA_ok h hT hr hv
  have h3 : (results fn tm).run P w = .ok (if h : cs.toArray.size = 1 then cs.toArray[0] else .tuple cs.toArray) w := by
    rw [results_eq, Sem.run_bind, Array.mapM_eq_mapM_toList]
    have : ∀ (s : Sem (List Value)), s.run P w = .ok cs w → (List.toArray <$> s).run P w = .ok cs.toArray w := fun s hs => by rw [Sem.run_map, hs]; rfl
    rw [this _ h1]
    rfl
  refine ⟨_, h3, ?_⟩
  match vs, cs, h2 with
  | [], cs, h2 => rw [VRelL.nil_iff.1 h2]; exact VRel.tuple .mk_nil
  | [x], cs, h2 =>
    obtain ⟨y, ys, rfl, hx, hys⟩ := VRelL.cons_iff.1 h2
    rw [VRelL.nil_iff.1 hys]
    exact hx
  | x :: x' :: r, cs, h2 =>
    have hlen := h2.length
    simp only [List.length_cons] at hlen
    have : ¬ cs.toArray.size = 1 := by simp; omega
    rw [dif_neg this]
    exact VRel.tuple (by simpa using h2)
theorem replicate_T {ρ : RMap} {args : List AV} {cargs : Array Value} (h : VRelL ρ args cargs.toList) (n : Nat) : TRel ρ (args ++ List.replicate (n - args.length) U) (cargs ++ Array.replicate (n - cargs.size) undef) := by
  have hl : args.length = cargs.size := by rw [h.length]; simp
  refine ⟨by simp [hl], fun i => ?_⟩
  by_cases hi : i < args.length
  · obtain ⟨y, hy, hv⟩ := h.get (List.getElem?_eq_getElem hi)
    have e1 : (args ++ List.replicate (n - args.length) U).getD i U = args[i] := by simp [List.getD, List.getElem?_append_left hi, List.getElem?_eq_getElem hi]
    have e2 : (cargs ++ Array.replicate (n - cargs.size) undef).getD i undef = y := by
      have hi' : i < cargs.size := by omega
      have : cargs[i]? = some y := by simpa using hy
      simp [Array.getD_eq_getD_getElem?, Array.getElem?_append_left hi', this]
    rw [e1, e2]; exact hv
  · have e1 : (args ++ List.replicate (n - args.length) U).getD i U = U := by
      simp only [List.getD, List.getElem?_append_right (Nat.le_of_not_lt hi)]
      by_cases h2 : i - args.length < n - args.length
      · simp [h2]
      · simp [List.getElem?_eq_none (show (List.replicate (n - args.length) U).length ≤ i - args.length by simp; omega)]
    have e2 : (cargs ++ Array.replicate (n - cargs.size) undef).getD i undef = undef := by
      have hi' : ¬ i < cargs.size := by omega
      simp only [Array.getD_eq_getD_getElem?, Array.getElem?_append_right (Nat.le_of_not_lt hi')]
      by_cases h2 : i - cargs.size < n - cargs.size
      · simp [h2]
      · simp [Array.getElem?_eq_none (show (Array.replicate (n - cargs.size) undef).size ≤ i - cargs.size by simp; omega)]
    rw [e1, e2]; exact VRel.U
def EndOk (rs : List (Nat × Option (Option Nat))) (Q : AV → AState → Prop) (e : Ex) (ts : List AV) (σ : AState) : Prop :=
  match e with
  | .exit _ => False
  | _ => match resultA σ.get ts rs with
    | some vs => Q (oneOf vs) σ
    | none => False
theorem runF_intro (hmix : P.follows .mixedOrders = true) {f : Nat} {af : AFunc} {first cap args : List AV} {σ : AState} {Q : AV → AState → Prop} (hf : resF P f = some af)
    (h : wpC (RsOf P) P af.body ((first ++ args ++ cap) ++ List.replicate (af.ntmps - (first ++ args ++ cap).length) U) σ (EndOk af.results Q)) : RunV (RsOf P) P (.func (.func f) first cap) args σ Q := by
  unfold resF at hf
  split at hf
  case h_2 => cases hf
  rename_i fn hfn
  split at hf
  case h_2 => cases hf
  rename_i c hc
  split at hf
  case h_2 => cases hf
  rename_i a r ha hr
  split at hf
  case isTrue => cases hf
  rename_i hname
  injection hf with hf; subst hf
  intro w0 ρ D cf cargs w hcf hargs hS
  simp only [VRel] at hcf
  obtain ⟨f1, c1, rfl, _, hf1, hc1⟩ := hcf
  refine ⟨{ target := .fn (.func f) c1, args := f1 ++ cargs }, rfl, ?_⟩
  have hall : VRelL ρ (first ++ args ++ cap) (f1 ++ cargs ++ c1).toList := by
    rw [Array.toList_append, Array.toList_append]; exact (hf1.append hargs).append hc1
  have hinv : (invoke (.fn (.func f) c1) (f1 ++ cargs)).run P w = .ok (.enter f (f1 ++ cargs ++ c1)) w := by
    have hb : fn.body.isNone = false := by simp [hc]
    have hn : (fn.name == "runtime.NumGoroutine") = false := by simpa using hname
    simp only [invoke, callFunc, Sem.run_bind, run_program, Result.andThen_ok, hfn, hn, hb, Bool.false_eq_true, if_false, Sem.run_pure]
  simp only [hinv, NextOut]
  intro cs
  let b : Frame := { (default : Frame) with fn := f, kind := .normal, roundOf := none }
  have henter : Frame.enter P f (f1 ++ cargs ++ c1) .normal = b.atR ⟨(f1 ++ cargs ++ c1) ++ Array.replicate (fn.ntmps - (f1 ++ cargs ++ c1).size) undef, []⟩ [.code c] := by
    simp [Frame.enter, Frame.atR, b, hfn, hc]
  obtain ⟨e, ts', σ', ρ', ms, tm', w', hQ, hn, hx, hT', hS', harr⟩ := wpC_sound (w0 := w0) hmix c a ha _ σ _ h ρ D b [] [] cs _ w (by intro l hl; cases hl) (replicate_T hall fn.ntmps) hS
  rw [← henter] at harr
  simp only [List.append_nil] at harr
  obtain ⟨todo, hst⟩ : ∃ todo, Steps P (lone (Frame.enter P f (f1 ++ cargs ++ c1) .normal) cs w) (lone { b.atR ⟨tm', marksOf ms⟩ todo with mode := .returning } cs w') := by
    cases e with
    | normal => exact ⟨_, Steps.trans harr (.one (stepR_end rfl))⟩
    | exit i => exact hQ.elim
    | ret => obtain ⟨k1, harr⟩ := harr; exact ⟨_, Steps.trans harr (.one (stepR_ret rfl))⟩
  obtain ⟨w2, hun, hS2⟩ := unwind_marks (D := D) { b.atR ⟨tm', []⟩ todo with mode := .returning } cs rfl ms w' hS'
  have hres : ∃ vs, resultA σ'.get ts' r = some vs ∧ Q (oneOf vs) σ' := by
    cases e with
    | exit i => exact hQ.elim
    | normal =>
      simp only [EndOk] at hQ
      split at hQ
      · exact ⟨_, by assumption, hQ⟩
      · exact hQ.elim
    | ret =>
      simp only [EndOk] at hQ
      split at hQ
      · exact ⟨_, by assumption, hQ⟩
      · exact hQ.elim
  obtain ⟨vs, hvs, hQv⟩ := hres
  obtain ⟨cv, hrun, hcv⟩ := run_results hS2 hT' hr hvs
  exact ⟨.returned cv, w2, { b.atR ⟨tm', []⟩ todo with mode := .returning }, ⟨cv, rfl, oneOf vs, ρ', σ', hQv, hn, hx, hcv, hS2⟩, Steps.trans hst hun, rfl, rfl, rfl, rfl, fn, hfn, hrun⟩
def setPs : List Nat → List AV → List AV → List AV
  | p :: ps, v :: vs, ts => setPs ps vs (ts.set p v)
  | _, _, ts => ts
def RoundEnd (i : Nat) (Q : AV → AState → Prop) (e : Ex) (_ts : List AV) (σ : AState) : Prop :=
  ∃ pd ts0 ps assign body, σ.get i = some (.loop .busy pd ts0 ps assign body) ∧
  match e with
  | .normal => Q (.bool true) (σ.set i (.loop .ready none ts0 ps assign body))
  | .exit id => Q (.bool false) (σ.set i (.loop .done (some (.exit id)) ts0 ps assign body))
  | .ret => Q (.bool false) (σ.set i (.loop .done (some .ret) ts0 ps assign body))
theorem setPs_T {ρ : RMap} : ∀ (ps : List Nat) (vs : List AV) (cvs : List Value) (ts : List AV) (tm : Array Value), ps.length = cvs.length → VRelL ρ vs cvs → TRel ρ ts tm →
    TRel ρ (setPs ps vs ts) ((ps.zip cvs).foldl (fun tmps (p : Nat × Value) => tmps.setIfInBounds p.1 p.2) tm)
  | [], vs, cvs, ts, tm, _, _, hT => by simpa [setPs] using hT
  | p :: ps, vs, cvs, ts, tm, hl, hv, hT => by
    cases cvs with
    | nil => simp at hl
    | cons c cvs =>
      cases vs with
      | nil => simp [VRelL] at hv
      | cons v vs =>
        obtain ⟨y, ys, he, h1, h2⟩ := VRelL.cons_iff.1 hv
        injection he with e1 e2; subst e1; subst e2
        simp only [setPs, List.zip_cons_cons, List.foldl_cons]
        exact setPs_T ps vs cvs _ _ (by simpa using hl) h2 (hT.set h1 p)
theorem SRel.lessDefs {Rs : Code → AC → Prop} {ms : List Nat} (h : SRel Rs P w0 ρ (ms ++ D.1, D.2) σ w) : SRel Rs P w0 ρ D σ w :=
  { h with defs := fun d hd => h.defs d (List.mem_append_right _ hd), nodup := (List.nodup_append.1 h.nodup).2.1 }
theorem SRel.setLoop (h : SRel (RsOf P) P w0 ρ D σ w) {i : Nat} {st st' : LoopState} {pd pd' : Option Ex} {ts0 : List AV} {ps : List Nat} {assign body : AC} {m : Loc} {r : Loop} {jump : Option Code} (hg : σ.get i = some (.loop st pd ts0 ps assign body)) (hm : ρ i = some m)
    (hr : w.heap[m.blk]? = some (.loop r)) (hp : pendRel pd' jump) :
    SRel (RsOf P) P w0 ρ D (σ.set i (.loop st' pd' ts0 ps assign body)) { w with heap := w.heap.setIfInBounds m.blk (.loop { r with state := st', pending := jump }) } := by
  obtain ⟨hb, r', hr', h1, h2, h3, h4, h5, h6⟩ := h.blk _ _ _ hg hm
  rw [hr] at hr'; cases hr'
  exact h.setObj hg rfl hm (by rw [hr]; simp) (fun _ _ => ⟨_, rfl⟩) hb ⟨hb, { r with state := st', pending := jump }, by simp [Array.getElem?_setIfInBounds_self_of_lt (lt_of_some hr)], rfl, hp, h3, h4, h5, h6⟩
theorem run_endRound {l : Nat} {r : Loop} (hr : w.heap[l]? = some (.loop r)) (jump : Option Code) :
    (Instr.endRound l jump).run P w = .ok (.bool jump.isNone) { w with heap := w.heap.setIfInBounds l (.loop { r with state := if jump.isNone then .ready else .done, pending := jump }) } := by
  simp only [Instr.endRound, Instr.getLoop, Sem.run_bind, run_getObj hr (by intros; simp), Result.andThen_ok, Sem.run_pure, run_setObj hr (by intros; simp)]
theorem runY_intro (hmix : P.follows .mixedOrders = true) {i : Nat} {args : List AV} {σ : AState} {Q : AV → AState → Prop} {pd : Option Ex} {ts0 : List AV} {ps : List Nat} {assign body : AC} (hg : σ.get i = some (.loop .ready pd ts0 ps assign body)) (hlen : args.length = ps.length)
    (h : wpC (RsOf P) P assign (setPs ps args ts0) σ (fun e ts1 σ1 => e = .normal ∧ ∃ pd1 ts2 ps2 as2 bo2, σ1.get i = some (.loop .ready pd1 ts2 ps2 as2 bo2) ∧
      wpC (RsOf P) P body ts1 (σ1.set i (.loop .busy pd1 ts2 ps2 as2 bo2)) (RoundEnd i Q))) : RunV (RsOf P) P (.yieldf i) args σ Q := by
  intro w0 ρ D cf cargs w hcf hargs hS
  simp only [VRel] at hcf
  obtain ⟨m, hm, rfl⟩ := hcf
  obtain ⟨hb, r, hr, hst, hpd, hts, hps, has, hbo⟩ := hS.blk _ _ _ hg hm
  have hca : cargs.size = r.params.size := by
    have h1 := hargs.length
    have h2 : r.params.toList.length = ps.length := by rw [hps]
    simp only [Array.length_toList] at h1 h2; omega
  have hi : i < σ.next := by
    rcases Nat.lt_or_ge i σ.next with hlt | hge
    · exact hlt
    · rw [(hS.dom i hge).2] at hg; cases hg
  refine ⟨{ target := .fn (.yield m.blk) #[], args := #[] ++ cargs }, rfl, ?_⟩
  have hinv : (invoke (.fn (.yield m.blk) #[]) (#[] ++ cargs)).run P w = .ok (.round m.blk r.fn ((r.params.zip cargs).foldl (fun tmps (t, a) => tmps.setIfInBounds t a) r.tmps) r.assign r.body) w := by
    simp only [invoke, Instr.yield, Instr.getLoop, Sem.run_bind, run_getObj hr (by intros; simp), Result.andThen_ok, Sem.run_pure, Array.empty_append, hca, ne_eq, not_true, if_false]
  simp only [hinv, NextOut]
  intro c cs
  let b : Frame := { (default : Frame) with fn := r.fn, kind := .normal, roundOf := some m.blk }
  generalize htm : (r.params.zip cargs).foldl (fun tmps (t, a) => tmps.setIfInBounds t a) r.tmps = tm
  have hfr : Frame.round m.blk r.fn tm r.assign r.body .normal = b.atR ⟨tm, []⟩ [.code r.assign, .beginRound, .code r.body] := by
    simp [Frame.round, Frame.atR, b]
  have hT : TRel ρ (setPs ps args ts0) tm := by
    have := setPs_T ps args cargs.toList ts0 r.tmps (by rw [← hargs.length, hlen]) hargs hts
    rw [← htm, ← Array.foldl_toList, Array.toList_zip, hps]; exact this
  have hSl := hS.addLoop hg hm ⟨_, _, _, _, _, _, rfl⟩
  obtain ⟨e1, ts1, σ1, ρ1, ms1, tm1, w1, ⟨rfl, pd1, ts02, ps2, as2, bo2, hg1, hbody⟩, hn1, hx1, hT1, hS1, harr1⟩ := wpC_sound (w0 := w0) hmix r.assign assign has _ σ _ h ρ (D.1, m.blk :: D.2) b [] [.beginRound, .code r.body] (c :: cs) tm w (by intro l hl; cases hl; simp) hT hSl
  rw [← hfr] at harr1
  have hm1 : ρ1 i = some m := by rw [hx1 i hi]; exact hm
  obtain ⟨_, r1, hr1, hst1, hp1, _, _, _, _⟩ := hS1.blk _ _ _ hg1 hm1
  have hbegin : (Instr.beginRound m.blk).run P w1 = .ok () { w1 with heap := w1.heap.setIfInBounds m.blk (.loop { r1 with state := .busy }) } := by
    simp only [Instr.beginRound, Instr.getLoop, Sem.run_bind, run_getObj hr1 (by intros; simp), Result.andThen_ok, Sem.run_pure, run_setObj hr1 (by intros; simp), hst1]
  have hS2 := hS1.setLoop (st' := .busy) (pd' := pd1) (jump := r1.pending) hg1 hm1 hr1 hp1
  obtain ⟨e2, ts2, σ2, ρ2, ms2, tm2, w3, ⟨pd2, ts03, ps3, as3, bo3, hg2, hQ2⟩, hn2, hx2, hT2, hS3, harr2⟩ := wpC_sound (w0 := w0) hmix r.body body hbo ts1 _ _ hbody ρ1 (ms1 ++ D.1, m.blk :: D.2) b (marksOf ms1 ++ []) [] (c :: cs) tm1 _ (by intro l hl; cases hl; simp) hT1 hS2
  have hi1 : i < (σ1.set i (.loop .busy pd1 ts02 ps2 as2 bo2)).next := Nat.lt_of_lt_of_le hi hn1
  have hm2 : ρ2 i = some m := by rw [hx2 i hi1]; exact hm1
  obtain ⟨_, r3, hr3, _, _, _, _, _, _⟩ := hS3.blk _ _ _ hg2 hm2
  have hS3' : SRel (RsOf P) P w0 ρ2 D σ2 w3 := SRel.lessLoop (SRel.lessDefs (D := (D.1, m.blk :: D.2)) (SRel.lessDefs (D := (ms1 ++ D.1, m.blk :: D.2)) hS3))
  have hxf : RX σ.next ρ ρ2 := hx1.trans hx2 hn1
  have hnf : σ.next ≤ σ2.next := Nat.le_trans hn1 hn2
  have hpre : Steps P (lone (Frame.round m.blk r.fn tm r.assign r.body .normal) (c :: cs) w) (lone (b.atR ⟨tm1, marksOf ms1 ++ []⟩ [.code r.body]) (c :: cs) { w1 with heap := w1.heap.setIfInBounds m.blk (.loop { r1 with state := .busy }) }) :=
    Steps.trans harr1 (.one (stepR_beginRound rfl hbegin))
  cases e2 with
  | normal =>
    exact ⟨.bool true, _, ⟨.bool true, ρ2, _, hQ2, hnf, hxf, VRel.bool, hS3'.setLoop (st' := .ready) (pd' := none) (jump := none) hg2 hm2 hr3 rfl⟩, Steps.trans hpre (Steps.trans harr2 (.one (stepR_round_end rfl rfl (run_endRound hr3 none))))⟩
  | exit id =>
    obtain ⟨k1, hk1, harr2⟩ := harr2
    exact ⟨.bool false, _, ⟨.bool false, ρ2, _, hQ2, hnf, hxf, VRel.bool, hS3'.setLoop (st' := .done) (pd' := some (.exit id)) (jump := some (.exit id)) hg2 hm2 hr3 ⟨by simp, rfl⟩⟩,
      Steps.trans hpre (Steps.trans harr2 (.one (stepR_round_exit rfl rfl (by rw [hk1]; rfl) (run_endRound hr3 (some (.exit id))))))⟩
  | ret =>
    obtain ⟨k1, harr2⟩ := harr2
    exact ⟨.bool false, _, ⟨.bool false, ρ2, _, hQ2, hnf, hxf, VRel.bool, hS3'.setLoop (st' := .done) (pd' := some .ret) (jump := some .ret) hg2 hm2 hr3 ⟨by simp, rfl⟩⟩,
      Steps.trans hpre (Steps.trans harr2 (.one (stepR_round_ret rfl rfl (run_endRound hr3 (some .ret)))))⟩
end
end Go.Am
