/-
  A PART of the proof: AmCore, AmRes, AmRel, AmState, AmMem, AmOps, AmOps2, AmOps3, AmOps4, AmOps5, AmOps6, AmOps7.
-/
import Derived.Calls
import Derived.Below
import Derived.Wp
import Derived.Laws.Cells
import Derived.IntWalk
import Derived.Laws.Strings
import Derived.Laws.StructEq
set_option linter.unusedSimpArgs false
set_option linter.unusedVariables false
namespace Go.Am
inductive AV where
  | int (k : IntKind) (n : Int)
  | bool (b : Bool)
  | str (s : List UInt8)
  | ptr (o : Option (Nat × Nat))
  | slice (o : Option (Nat × Nat)) (len : Nat) (cap : Option Nat) (sz : Nat)
  | map (o : Option Nat)
  | func (fn : Fn) (first captured : List AV)
  | yieldf (i : Nat)
  | nilFunc
  | iface (t : TypeId) (v : AV)
  | nilIface
  | agg (l : List AV)
  | tuple (l : List AV)
def U : AV := .tuple []
def AV.cells : AV → List AV | .agg l => l | v => [v]
def AV.one : AV → Bool | .agg _ | .tuple _ => false | _ => true
inductive X where
  | t (i : Nat)
  | c (v : AV)
  | g (i : Nat)
def X.ev (ts : List AV) : X → AV
  | .t i => ts.getD i U
  | .c v => v
  | .g i => .ptr (some (i, 0))
inductive BK where
  | int
  | str
  | bool
inductive NK where
  | ptr
  | slice
  | map
  | func
  | iface
  | ifaceC
inductive EqK where
  | basic (b : BK)
  | nilOf (k : NK)
  | struct (fs : List (Nat × Option BK))
inductive LK where
  | str
  | slice
  | map
inductive AOp where
  | mv (x : X)
  | pick (c a b : X)
  | alloc (z : List AV)
  | box (x : X)
  | build (z : List AV) (parts : List (Nat × Nat × X))
  | buildSlice (sz len : Nat) (z : List AV) (parts : List (Nat × Nat × X))
  | load (n : Option Nat) (x : X)
  | store (n : Nat) (a v : X)
  | fieldAddr (off : Nat) (x : X)
  | field (off : Nat) (n : Option Nat) (x : X)
  | idxS (sz : Nat) (x i : X)
  | idxA (len sz : Nat) (x i : X)
  | idxStr (x i : X)
  | idxArr (len sz : Nat) (n : Option Nat) (x i : X)
  | bin (op : BinOp) (x y : X)
  | eq (k : EqK) (neg : Bool) (x y : X)
  | un (op : UnOp) (x : X)
  | conv (k : IntKind) (x : X)
  | convStr (x : X)
  | strBytes (x : X)
  | bytesStr (x : X)
  | intStr (x : X)
  | mkIface (t : TypeId) (x : X)
  | mkFunc (fn : Fn) (first cap : List X)
  | mkMap
  | mkSlice (sz bytes : Nat) (z : List AV) (l c : X)
  | sliceS (sz : Nat) (x : X) (lo hi mx : Option X)
  | sliceStr (x : X) (lo hi : Option X)
  | sliceA (n sz : Nat) (x : X) (lo hi mx : Option X)
  | lookup (b : BK) (ok : Bool) (z : AV) (x k : X)
  | mapSet (b : BK) (m k v : X)
  | rangeStr (x : X)
  | nextStr (x : X)
  | extract (i : Nat) (x : X)
  | len (k : LK) (x : X)
  | lenC (n : Nat)
  | cap (x : X)
  | append (sz bytes : Nat) (s x : X)
  | appendZ (sz bytes : Nat) (z : List AV) (s n : X)
  | copy (sz : Nat) (d s : X)
  | max (l : List X)
  | min (l : List X)
  | nilCheck (x : X)
  | assertT (t : TypeId) (ok : Bool) (z : AV) (x : X)
  | fail
inductive It where
  | op (d : Option Nat) (g : Option (Nat × Bool)) (o : AOp)
  | call (d : Option Nat) (g : Option (Nat × Bool)) (f : X) (args : List X)
  | inv (d : Option Nat) (g : Option (Nat × Bool)) (tab : List (TypeId × Nat)) (x : X) (args : List X)
  | again (t : Nat) (g : Option (Nat × Bool)) (o : AOp)
inductive AC where
  | skip
  | its (l : List It)
  | seq (a b : AC)
  | cond (x : X) (a b : AC)
  | block (id : Nat) (b : AC)
  | loop (b : AC)
  | rangef (x : X) (ps : List Nat) (assign body : AC)
  | exit (id : Nat)
  | ret
  | fail
inductive Ex where
  | normal
  | exit (id : Nat)
  | ret
  deriving DecidableEq
inductive ABlk where
  | cells (l : List AV) (w : Bool)
  | map (es : List (AV × AV))
  | iter (s : List UInt8) (pos : Nat)
  | loop (st : LoopState) (pend : Option Ex) (ts : List AV) (ps : List Nat) (assign body : AC)
structure AState where
  get : Nat → Option ABlk
  next : Nat
inductive Eff where
  | push (b : ABlk)
  | set (i : Nat) (b : ABlk)
  | kill (i : Nat)
def AState.push (σ : AState) (b : ABlk) : AState := { get := fun j => if j = σ.next then some b else σ.get j, next := σ.next + 1 }
def AState.set (σ : AState) (i : Nat) (b : ABlk) : AState := { get := fun j => if j = i then some b else σ.get j, next := σ.next }
def AState.kill (σ : AState) (i : Nat) : AState := { get := fun j => if j = i then none else σ.get j, next := σ.next }
def AState.eff (σ : AState) : Eff → AState
  | .push b => σ.push b
  | .set i b => σ.set i b
  | .kill i => σ.kill i
def AState.app (σ : AState) : List Eff → AState
  | [] => σ
  | e :: r => (σ.eff e).app r
def wrapF (k : IntKind) (n : Int) : Int :=
  match k, n with
  | .i64, .ofNat m => bif Nat.blt m 9223372036854775808 then .ofNat m else IntKind.wrap .i64 (.ofNat m)
  | .u8, .ofNat m => bif Nat.blt m 256 then .ofNat m else IntKind.wrap .u8 (.ofNat m)
  | k, n => k.wrap n
def leU : List UInt8 → List UInt8 → Bool := fun x y => Op.bytesLess x y || x == y
def binA (op : BinOp) : AV → AV → Option AV
  | .int k a, .int k' b =>
    match op with
    | .shl => if 0 ≤ b then some (.int k (wrapF k (a * 2 ^ (min b.toNat k.bits)))) else none
    | .shr => if 0 ≤ b then some (.int k (a.fdiv (2 ^ (min b.toNat k.bits)))) else none
    | .add => if k = k' then some (.int k (wrapF k (a + b))) else none
    | .sub => if k = k' then some (.int k (wrapF k (a - b))) else none
    | .mul => if k = k' then some (.int k (wrapF k (a * b))) else none
    | .quo => if k = k' then (if b = 0 then none else some (.int k (wrapF k (a.tdiv b)))) else none
    | .rem => if k = k' then (if b = 0 then none else some (.int k (a.tmod b))) else none
    | .and => if k = k' then some (.int k (k.wrap (BitVec.ofInt k.bits a &&& BitVec.ofInt k.bits b).toNat)) else none
    | .or => if k = k' then some (.int k (k.wrap (BitVec.ofInt k.bits a ||| BitVec.ofInt k.bits b).toNat)) else none
    | .xor => if k = k' then some (.int k (k.wrap (BitVec.ofInt k.bits a ^^^ BitVec.ofInt k.bits b).toNat)) else none
    | .andNot => if k = k' then some (.int k (k.wrap (BitVec.ofInt k.bits a &&& ~~~(BitVec.ofInt k.bits b)).toNat)) else none
    | .eql => if k = k' then some (.bool (a == b)) else none
    | .neq => if k = k' then some (.bool (a != b)) else none
    | .lss => if k = k' then some (.bool (a < b)) else none
    | .leq => if k = k' then some (.bool (a ≤ b)) else none
    | .gtr => if k = k' then some (.bool (a > b)) else none
    | .geq => if k = k' then some (.bool (a ≥ b)) else none
  | .str a, .str b =>
    match op with
    | .add => if a.length + b.length < 9223372036854775808 then some (.str (a ++ b)) else none
    | .eql => some (.bool (a == b))
    | .neq => some (.bool (!(a == b)))
    | .lss => some (.bool (Op.bytesLess a b))
    | .leq => some (.bool (leU a b))
    | .gtr => some (.bool (!leU a b))
    | .geq => some (.bool (!Op.bytesLess a b))
    | _ => none
  | _, _ => none
def nilEq : NK → AV → AV → Option Bool
  | .ptr, .ptr none, .ptr o => some o.isNone
  | .ptr, .ptr (some _), .ptr none => some false
  | .slice, .slice none _ _ _, .slice o _ _ _ => some o.isNone
  | .slice, .slice (some _) _ _ _, .slice none _ _ _ => some false
  | .map, .map none, .map o => some o.isNone
  | .map, .map (some _), .map none => some false
  | .func, .nilFunc, .nilFunc => some true
  | .func, .nilFunc, .func _ _ _ => some false
  | .func, .func _ _ _, .nilFunc => some false
  | .func, .nilFunc, .yieldf _ => some false
  | .func, .yieldf _, .nilFunc => some false
  | .iface, .nilIface, .iface _ _ => some false
  | .iface, .iface _ _, .nilIface => some false
  | .ifaceC, .nilIface, .nilIface => some true
  | .ifaceC, .nilIface, .iface _ _ => some false
  | .ifaceC, .iface _ _, .nilIface => some false
  | _, _, _ => none
def kEq : BK → AV → AV → Option Bool
  | .int, .int k a, .int k' b => if k = k' then some (a == b) else none
  | .str, .str a, .str b => some (a == b)
  | .bool, .bool a, .bool b => some (a == b)
  | _, _, _ => none
def structEq (a b : List AV) : List (Nat × Option BK) → Option Bool
  | [] => some true
  | (o, some k) :: r => match a[o]?, b[o]? with
    | some x, some y => match kEq k x y with
      | some true => structEq a b r
      | some false => some false
      | none => none
    | _, _ => none
  | (_, none) :: r => structEq a b r
def eqA (k : EqK) (x y : AV) : Option Bool :=
  match k with
  | .basic b => kEq b x y
  | .nilOf k => nilEq k x y
  | .struct fs => match x, y with
    | .agg a, .agg b => structEq a b fs
    | _, _ => none
def fillA (l : List AV) : List (Nat × Nat × AV) → Option (List AV)
  | [] => some l
  | (off, size, v) :: r => if v.cells.length = size ∧ off + size ≤ l.length then fillA (l.take off ++ v.cells ++ l.drop (off + size)) r else none
def putL (l : List AV) (o : Nat) (vs : List AV) : List AV := l.take o ++ vs ++ l.drop (o + vs.length)
def partA (l : List AV) (off : Nat) : Option Nat → Option AV
  | none => l[off]?
  | some m => if off + m ≤ l.length then some (.agg ((l.drop off).take m)) else none
def allOne (l : List AV) : Bool := l.all AV.one
def bytesOf (s : List UInt8) : List AV := s.map fun b => .int .u8 b.toNat
def toBytes : List AV → Option (List UInt8)
  | [] => some []
  | .int .u8 n :: r => match toBytes r with
    | some l => some (UInt8.ofNat n.toNat :: l)
    | none => none
  | _ :: _ => none
def firstA (g : Nat → Option ABlk) (sz n : Nat) : AV → Option (List AV)
  | .slice none _ _ _ => if n = 0 then some [] else none
  | .slice (some (i, o)) _ _ _ => match g i with
    | some (.cells l _) => if o + n * sz ≤ l.length then some ((l.drop o).take (n * sz)) else none
    | _ => none
  | .str s => if sz = 1 ∧ n ≤ s.length then some (bytesOf (s.take n)) else none
  | _ => none
def lenA : AV → Option Nat
  | .slice _ n _ _ => some n
  | .str s => some s.length
  | _ => none
def natOf : AV → Option Nat
  | .int _ (.ofNat n) => some n
  | _ => none
def upTo (v : AV) (y : Nat) : Option Nat :=
  match natOf v with
  | some n => if n ≤ y then some n else none
  | none => none
def bMax (top : Nat) : Option AV → Option (Option Nat)
  | none => some none
  | some v => match upTo v top with
    | some m => some (some m)
    | none => none
def bHigh (len top : Nat) (m : Option Nat) : Option AV → Option Nat
  | none => match m with
    | none => some len
    | some _ => none
  | some v => upTo v (m.getD top)
def bLow (h : Nat) : Option AV → Option Nat
  | none => some 0
  | some v => upTo v h
def boundsA (len : Nat) (cap : Option Nat) (lo hi mx : Option AV) : Option (Nat × Nat × Option Nat) :=
  match bMax (cap.getD len) mx with
  | none => none
  | some m => match bHigh len (cap.getD len) m hi with
    | none => none
    | some h => match bLow h lo with
      | none => none
      | some l => some (l, h, match m with | some m => some (m - l) | none => cap.map (· - l))
def keyFind (b : BK) (k : AV) : List (AV × AV) → Option (Option AV)
  | [] => some none
  | (k', v) :: r => match kEq b k k' with
    | some true => some (some v)
    | some false => keyFind b k r
    | none => none
def keySet (b : BK) (k v : AV) : List (AV × AV) → List (AV × AV)
  | [] => [(k, v)]
  | (k', v') :: r => match kEq b k k' with
    | some true => (k, v) :: r
    | _ => (k', v') :: keySet b k v r
def maxA : AV → List AV → Option AV
  | x, [] => some x
  | .int k x, .int k' y :: r => if k = k' then maxA (.int k (if y > x then y else x)) r else none
  | _, _ => none
def minA : AV → List AV → Option AV
  | x, [] => some x
  | .int k x, .int k' y :: r => if k = k' then minA (.int k (if y < x then y else x)) r else none
  | _, _ => none
def evO (ts : List AV) : Option X → Option AV
  | none => none
  | some x => some (x.ev ts)
def grows (need bytes : Nat) : Bool := decide (0 < bytes ∧ (2 * need + 192) * bytes ≤ 281474976710656)
def appendA (g : Nat → Option ABlk) (next sz bytes : Nat) (s : AV) (n : Nat) (xs : List AV) : Option (AV × List Eff) :=
  match s with
  | .slice o sLen cap sz' =>
    if (o = none ∨ sz' = sz) ∧ 0 < sz then
      if n = 0 then some (s, [])
      else match o with
        | none => if sLen = 0 ∧ grows n bytes = true then some (.slice (some (next, 0)) n none sz, [.push (.cells xs true)]) else none
        | some (i, o) => match g i with
          | some (.cells l wr) =>
            match cap with
            | some c =>
              if sLen + n ≤ c then
                if wr = true ∧ o + c * sz ≤ l.length ∧ allOne xs = true then some (.slice (some (i, o)) (sLen + n) (some c) sz, [.set i (.cells (putL l (o + sLen * sz) xs) true)]) else none
              else if o + sLen * sz ≤ l.length ∧ grows (sLen + n) bytes = true then
                some (.slice (some (next, 0)) (sLen + n) none sz, [.push (.cells ((l.drop o).take (sLen * sz) ++ xs) true)]) else none
            | none =>
              if wr = true ∧ o + sLen * sz ≤ l.length ∧ allOne xs = true ∧ grows (sLen + n) bytes = true then
                some (.slice (some (next, 0)) (sLen + n) none sz, [.kill i, .push (.cells ((l.drop o).take (sLen * sz) ++ xs) true)]) else none
          | _ => none
    else none
  | _ => none
def opA (g : Nat → Option ABlk) (next : Nat) (ts : List AV) : AOp → Option (AV × List Eff)
  | .mv x => some (x.ev ts, [])
  | .pick c a b => match c.ev ts with
    | .bool b' => some (if b' then a.ev ts else b.ev ts, [])
    | _ => none
  | .alloc z => some (.ptr (some (next, 0)), [.push (.cells z true)])
  | .box x => some (.ptr (some (next, 0)), [.push (.cells (x.ev ts).cells true)])
  | .build z parts => match fillA z (parts.map fun p => (p.1, p.2.1, p.2.2.ev ts)) with
    | some l => some (.agg l, [])
    | none => none
  | .buildSlice sz len z parts => match fillA z (parts.map fun p => (p.1, p.2.1, p.2.2.ev ts)) with
    | some l => some (.slice (some (next, 0)) len (some len) sz, [.push (.cells l true)])
    | none => none
  | .load n x => match x.ev ts with
    | .ptr (some (i, o)) => match g i with
      | some (.cells l _) => match partA l o n with
        | some v => some (v, [])
        | none => none
      | _ => none
    | _ => none
  | .store n a v => match a.ev ts with
    | .ptr (some (i, o)) => match g i with
      | some (.cells l true) => if (v.ev ts).cells.length = n ∧ o + n ≤ l.length ∧ allOne (v.ev ts).cells = true then some (U, [.set i (.cells (putL l o (v.ev ts).cells) true)]) else none
      | _ => none
    | _ => none
  | .fieldAddr off x => match x.ev ts with
    | .ptr (some (i, o)) => some (.ptr (some (i, o + off)), [])
    | _ => none
  | .field off n x => match x.ev ts with
    | .agg l => match partA l off n with
      | some v => some (v, [])
      | none => none
    | _ => none
  | .idxS sz x i => match x.ev ts, i.ev ts with
    | .slice (some (b, o)) len _ sz', .int _ n => if sz' = sz ∧ 0 ≤ n ∧ n < len then some (.ptr (some (b, o + n.toNat * sz)), []) else none
    | _, _ => none
  | .idxA len sz x i => match x.ev ts, i.ev ts with
    | .ptr (some (b, o)), .int _ n => if 0 ≤ n ∧ n < len then some (.ptr (some (b, o + n.toNat * sz)), []) else none
    | _, _ => none
  | .idxStr x i => match x.ev ts, i.ev ts with
    | .str s, .int _ n => if 0 ≤ n then (match s[n.toNat]? with
      | some b => some (.int .u8 b.toNat, [])
      | none => none) else none
    | _, _ => none
  | .idxArr len sz n x i => match x.ev ts, i.ev ts with
    | .agg l, .int _ k => if 0 ≤ k ∧ k < len then (match partA l (k.toNat * sz) n with
      | some v => some (v, [])
      | none => none) else none
    | _, _ => none
  | .bin op x y => match binA op (x.ev ts) (y.ev ts) with
    | some v => some (v, [])
    | none => none
  | .eq k neg x y => match eqA k (x.ev ts) (y.ev ts) with
    | some b => some (.bool (if neg then !b else b), [])
    | none => none
  | .un op x => match op, x.ev ts with
    | .not, .bool b => some (.bool !b, [])
    | .neg, .int k n => some (.int k (wrapF k (0 - n)), [])
    | .xor, .int k n => some (.int k (k.wrap (BitVec.ofInt k.bits (if k.signed then -1 else k.max) ^^^ BitVec.ofInt k.bits n).toNat), [])
    | _, _ => none
  | .conv k x => match x.ev ts with
    | .int _ n => some (.int k (wrapF k n), [])
    | _ => none
  | .convStr x => match x.ev ts with
    | .str s => some (.str s, [])
    | _ => none
  | .strBytes x => match x.ev ts with
    | .str s => some (.slice (some (next, 0)) s.length none 1, [.push (.cells (bytesOf s) true)])
    | _ => none
  | .bytesStr x => match x.ev ts with
    | .slice o n c sz => match firstA g 1 n (.slice o n c sz) with
      | some l => match toBytes l with
        | some s => some (.str s, [])
        | none => none
      | none => none
    | _ => none
  | .intStr x => match x.ev ts with
    | .int _ n => some (.str (Utf8.encode n).data.toList, [])
    | _ => none
  | .mkIface t x => some (.iface t (x.ev ts), [])
  | .mkFunc fn first cap => some (.func fn (first.map (X.ev ts)) (cap.map (X.ev ts)), [])
  | .mkMap => some (.map (some next), [.push (.map [])])
  | .mkSlice sz bytes z l c => match natOf (l.ev ts), natOf (c.ev ts) with
    | some l, some c => if l ≤ c ∧ 0 < sz ∧ 0 < bytes ∧ c * bytes ≤ 281474976710656 ∧ z.length = sz then some (.slice (some (next, 0)) l (some c) sz, [.push (.cells (List.replicate c z).flatten true)]) else none
    | _, _ => none
  | .sliceS sz x lo hi mx => match x.ev ts with
    | .slice o len cap sz' => if o = none ∨ sz' = sz then (match boundsA len cap (evO ts lo) (evO ts hi) (evO ts mx) with
      | some (l, h, c) => some (.slice (o.map fun p => (p.1, p.2 + l * sz)) (h - l) c sz, [])
      | none => none) else none
    | _ => none
  | .sliceStr x lo hi => match x.ev ts with
    | .str s => match boundsA s.length (some s.length) (evO ts lo) (evO ts hi) none with
      | some (l, h, _) => some (.str ((s.take h).drop l), [])
      | none => none
    | _ => none
  | .sliceA n sz x lo hi mx => match x.ev ts with
    | .ptr (some (i, o)) => match g i with
      | some (.cells l _) => match boundsA n (some n) (evO ts lo) (evO ts hi) (evO ts mx) with
        | some (lo, h, c) => if o + n * sz ≤ l.length then some (.slice (some (i, o + lo * sz)) (h - lo) c sz, []) else none
        | none => none
      | _ => none
    | _ => none
  | .lookup b ok z x k =>
    match (match x.ev ts with
      | .map none => some []
      | .map (some i) => match g i with
        | some (.map es) => some es
        | _ => none
      | _ => none) with
    | some es => match keyFind b (k.ev ts) es with
      | some (some v) => some (if ok then .tuple [v, .bool true] else v, [])
      | some none => some (if ok then .tuple [z, .bool false] else z, [])
      | none => none
    | none => none
  | .mapSet b m k v => match m.ev ts with
    | .map (some i) => match g i with
      | some (.map es) => match keyFind b (k.ev ts) es with
        | some _ => some (U, [.set i (.map (keySet b (k.ev ts) (v.ev ts) es))])
        | none => none
      | _ => none
    | _ => none
  | .rangeStr x => match x.ev ts with
    | .str s => some (.ptr (some (next, 0)), [.push (.iter s 0)])
    | _ => none
  | .nextStr x => match x.ev ts with
    | .ptr (some (i, 0)) => match g i with
      | some (.iter s pos) =>
        if pos < s.length then some (.tuple [.bool true, .int .i64 pos, .int .i32 (Utf8.decode ⟨s.toArray⟩ pos).1], [.set i (.iter s (pos + (Utf8.decode ⟨s.toArray⟩ pos).2))])
        else some (.tuple [.bool false], [])
      | _ => none
    | _ => none
  | .extract i x => match x.ev ts with
    | .tuple l => match l[i]? with
      | some v => some (v, [])
      | none => none
    | _ => none
  | .len k x => match k, x.ev ts with
    | .str, .str s => some (.int .i64 s.length, [])
    | .slice, .slice _ n _ _ => some (.int .i64 n, [])
    | .map, .map none => some (.int .i64 0, [])
    | .map, .map (some i) => match g i with
      | some (.map es) => some (.int .i64 es.length, [])
      | _ => none
    | _, _ => none
  | .lenC n => some (.int .i64 n, [])
  | .cap x => match x.ev ts with
    | .slice _ _ (some c) _ => some (.int .i64 c, [])
    | _ => none
  | .append sz bytes s x => match lenA (x.ev ts) with
    | some n => match firstA g sz n (x.ev ts) with
      | some xs => appendA g next sz bytes (s.ev ts) n xs
      | none => none
    | none => none
  | .appendZ sz bytes z s n => match natOf (n.ev ts) with
    | some m => if 0 < m ∧ z.length = sz ∧ 0 < bytes ∧ m * bytes ≤ 281474976710656 then appendA g next sz bytes (s.ev ts) m (List.replicate m z).flatten else none
    | none => none
  | .copy sz d s => match d.ev ts, lenA (s.ev ts) with
    | .slice o dLen _ sz', some sLen =>
      match firstA g sz (Nat.min sLen dLen) (s.ev ts), o with
      | some _, none => some (.int .i64 (Nat.min sLen dLen), [])
      | some xs, some (i, o) => match g i with
        | some (.cells l true) => if sz' = sz ∧ o + xs.length ≤ l.length ∧ allOne xs = true then some (.int .i64 (Nat.min sLen dLen), [.set i (.cells (putL l o xs) true)]) else none
        | _ => none
      | none, _ => none
    | _, _ => none
  | .max l => match l.map (X.ev ts) with
    | x :: r => match maxA x r with
      | some v => some (v, [])
      | none => none
    | [] => none
  | .min l => match l.map (X.ev ts) with
    | x :: r => match minA x r with
      | some v => some (v, [])
      | none => none
    | [] => none
  | .nilCheck x => match x.ev ts with
    | .ptr (some p) => some (.ptr (some p), [])
    | .func (.func f) a b => some (.func (.func f) a b, [])
    | .yieldf i => some (.yieldf i, [])
    | .iface t v => some (.iface t v, [])
    | _ => none
  | .assertT t ok z x => match x.ev ts with
    | .iface t' v => if t' = t then some (if ok then .tuple [v, .bool true] else v, []) else if ok then some (.tuple [z, .bool false], []) else none
    | .nilIface => if ok then some (.tuple [z, .bool false], []) else none
    | _ => none
  | .fail => none
def put (d : Option Nat) (v : AV) (ts : List AV) : List AV :=
  match d with
  | some i => ts.set i v
  | none => ts
def wants (ts : List AV) : Option (Nat × Bool) → Bool
  | none => true
  | some (t, b) => match ts.getD t U with
    | .bool c => c == b
    | _ => false
end Go.Am
namespace Go.Am
def absV1 : Value → Option AV
  | .bool b => some (.bool b)
  | .int k n => some (.int k n)
  | .string s => some (.str s.data.toList)
  | .pointer none => some (.ptr none)
  | .slice none 0 0 => some (.slice none 0 (some 0) 0)
  | .map none => some (.map none)
  | .nilFunc => some .nilFunc
  | .nilIface => some .nilIface
  | _ => none
def absL : List Value → Option (List AV)
  | [] => some []
  | v :: r => match absV1 v, absL r with
    | some x, some l => some (x :: l)
    | _, _ => none
def absV : Value → Option AV
  | .agg cs => (absL cs.toList).map .agg
  | .tuple cs => (absL cs.toList).map .tuple
  | v => absV1 v
variable (P : Program)
def resX : Operand → Option X
  | .tmp t => some (.t t)
  | .const v => (absV v).map .c
  | .global g => if g < P.globals.size then some (.g g) else none
  | .func f => some (.c (.func (.func f) [] []))
def resXO : Option Operand → Option (Option X)
  | none => some none
  | some x => (resX P x).map some
def resXs : List Operand → Option (List X)
  | [] => some []
  | x :: r => match resX P x, resXs r with
    | some y, some l => some (y :: l)
    | _, _ => none
def szOf (t : TypeId) : Option Nat := (P.info? t).map (·.size)
def ldKind (t : TypeId) : Option (Option Nat) :=
  match P.underlying t, P.info? t with
  | some (.struct _), some i => some (some i.size)
  | some (.array _ _), some i => some (some i.size)
  | some _, some _ => some none
  | _, _ => none
def zeroA (t : TypeId) : Option AV := ((P.info? t).bind (·.zero)).bind absV
def placesS (fs : Array Field) : List (Nat × Operand) → Option (List (Nat × Nat × X))
  | [] => some []
  | (i, x) :: r => match (fs[i]?).bind (fun f => (szOf P f.type).map fun n => (f.offset, n)), resX P x, placesS fs r with
    | some (o, n), some y, some l => some ((o, n, y) :: l)
    | _, _, _ => none
def placesA (sz : Nat) : List (Nat × Operand) → Option (List (Nat × Nat × X))
  | [] => some []
  | (i, x) :: r => match resX P x, placesA sz r with
    | some y, some l => some ((i * sz, sz, y) :: l)
    | _, _ => none
def basicType (t : TypeId) : Option BK :=
  match P.underlying t with
  | some (.int _) => some .int
  | some .string => some .str
  | some .bool => some .bool
  | _ => none
def eqFields : List Field → Option (List (Nat × Option BK))
  | [] => some []
  | f :: r => match basicType P f.type, ldKind P f.type, eqFields r with
    | some k, some none, some l => some ((f.offset, if f.name = "_" then none else some k) :: l)
    | _, _, _ => none
def eqKind (t : TypeId) : Option EqK :=
  match P.underlying t with
  | some .bool => some (.basic .bool)
  | some (.pointer _) => some (.nilOf .ptr)
  | some (.slice _) => some (.nilOf .slice)
  | some (.map _ _) => some (.nilOf .map)
  | some (.func _ _ _) => some (.nilOf .func)
  | some (.interface _) => some (.nilOf .iface)
  | some (.struct fs) => if P.stoodInHeld t || P.eqGuardType P.depth t then none else (eqFields P fs.toList).map .struct
  | _ => none
def isNumOrStr (t : TypeId) : Bool :=
  match P.underlying t with
  | some (.int _) | some .string => true
  | _ => false
def resBuild (t : TypeId) (parts : Array (Nat × Operand)) : Option AOp :=
  match (P.info? t).bind (·.zero), P.underlying t with
  | some z, some (.struct fs) => if fs.toList.all (fun f => (szOf P f.type).isSome) then (match absL z.cells.toList, placesS P fs parts.toList with
    | some zc, some ps => some (.build zc ps)
    | _, _ => none) else none
  | some z, some (.array _ e) => match absL z.cells.toList, (szOf P e).bind (fun n => placesA P n parts.toList) with
    | some zc, some ps => some (.build zc ps)
    | _, _ => none
  | _, _ => none
def resBuildSlice (t : TypeId) (len : Nat) (parts : Array (Nat × Operand)) : Option AOp :=
  match P.underlying t with
  | some (.slice e) => match P.info? e with
    | some i => match i.zero with
      | some z => match absL z.cells.toList, placesA P i.size parts.toList with
        | some zc, some ps => if len * i.size ≤ 2 ^ 24 ∧ z.cells.size = i.size ∧ 0 < i.size then some (.buildSlice i.size len (List.replicate len zc).flatten ps) else none
        | _, _ => none
      | none => none
    | none => none
  | _ => none
def resIdxAddr (t : TypeId) (x i : Operand) : Option AOp :=
  match P.underlying t, resX P x, resX P i with
  | some (.slice e), some x, some i => (szOf P e).bind fun n => if n = 0 then none else some (.idxS n x i)
  | some (.array len e), some x, some i => (szOf P e).bind fun n => some (.idxA len n x i)
  | _, _, _ => none
def resIdx (t : TypeId) (x i : Operand) : Option AOp :=
  match P.underlying t, resX P x, resX P i with
  | some .string, some x, some i => some (.idxStr x i)
  | some (.array len e), some x, some i => match szOf P e, ldKind P e with
    | some n, some k => some (.idxArr len n k x i)
    | _, _ => none
  | _, _, _ => none
def isConst : Operand → Bool
  | .const _ => true
  | _ => false
def litK (x y : Operand) : EqK → EqK
  | .nilOf .iface => if isConst x || isConst y then .nilOf .ifaceC else .nilOf .iface
  | k => k
def resBin (op : BinOp) (t : TypeId) (x y : Operand) : Option AOp :=
  match resX P x, resX P y with
  | some a, some b =>
    if isNumOrStr P t then some (.bin op a b)
    else match op with
      | .eql => (eqKind P t).map fun k => .eq (litK x y k) false a b
      | .neq => (eqKind P t).map fun k => .eq (litK x y k) true a b
      | _ => none
  | _, _ => none
def resConv (src dst : TypeId) (x : Operand) : Option AOp :=
  match P.underlying src, P.underlying dst, resX P x with
  | some (.int _), some (.int k), some x => some (.conv k x)
  | some .string, some .string, some x => some (.convStr x)
  | some .string, some (.slice e), some x => match P.underlying e with
    | some (.int .u8) => some (.strBytes x)
    | _ => none
  | some (.slice e), some .string, some x => match P.underlying e with
    | some (.int .u8) => some (.bytesStr x)
    | _ => none
  | some (.int _), some .string, some x => some (.intStr x)
  | _, _, _ => none
def resSlice (t : TypeId) (x : Operand) (lo hi mx : Option Operand) : Option AOp :=
  match P.underlying t, resX P x, resXO P lo, resXO P hi, resXO P mx with
  | some .string, some x, some lo, some hi, some none => some (.sliceStr x lo hi)
  | some (.slice e), some x, some lo, some hi, some mx => (szOf P e).bind fun n => some (.sliceS n x lo hi mx)
  | some (.array n e), some x, some lo, some hi, some mx => (szOf P e).bind fun s => some (.sliceA n s x lo hi mx)
  | _, _, _, _, _ => none
def resMkSlice (t : TypeId) (l c : Operand) : Option AOp :=
  match P.underlying t with
  | some (.slice e) => match P.info? e, resX P l, resX P c with
    | some i, some l, some c => match i.zero with
      | some z => match absL z.cells.toList with
        | some zc => if z.cells.size = i.size then some (.mkSlice i.size i.bytes zc l c) else none
        | none => none
      | none => none
    | _, _, _ => none
  | _ => none
def resLookup (t : TypeId) (x k : Operand) (ok : Bool) : Option AOp :=
  match P.underlying t with
  | some (.map key elem) => match basicType P key, zeroA P elem, resX P x, resX P k with
    | some b, some z, some x, some k => some (.lookup b ok z x k)
    | _, _, _, _ => none
  | _ => none
def resMapSet (t : TypeId) (m k v : Operand) : Option AOp :=
  match P.underlying t with
  | some (.map key _) => match basicType P key, resX P m, resX P k, resX P v with
    | some b, some m, some k, some v => some (.mapSet b m k v)
    | _, _, _, _ => none
  | _ => none
def strOrSlice (t : Option TypeId) : Bool :=
  match t.bind P.underlying with
  | some .string | some (.slice _) => true
  | _ => false
def intT (t : Option TypeId) : Bool :=
  match t.bind P.underlying with
  | some (.int _) => true
  | _ => false
def resBuiltin (b : Builtin) (args : List Operand) (argTypes : Array TypeId) : Option AOp :=
  match b, args with
  | .len, [x] => match (argTypes[0]?).bind P.underlying, resX P x with
    | some .string, some x => some (.len .str x)
    | some (.slice _), some x => some (.len .slice x)
    | some (.map _ _), some x => some (.len .map x)
    | some (.array n _), some _ => some (.lenC n)
    | _, _ => none
  | .cap, [x] => match (argTypes[0]?).bind P.underlying, resX P x with
    | some (.slice _), some x => some (.cap x)
    | _, _ => none
  | .append, [s, x] => match (argTypes[0]?).bind P.underlying, resX P s, resX P x with
    | some (.slice e), some s, some x => if strOrSlice P argTypes[1]? then (match P.info? e with
      | some i => match i.zero with
        | some z => if z.cells.size = i.size then some (.append i.size i.bytes s x) else none
        | none => none
      | none => none) else if intT P argTypes[1]? then (match P.info? e with
      | some i => match i.zero with
        | some z => if z.cells.size = i.size then (match absL z.cells.toList with
          | some zc => some (.appendZ i.size i.bytes zc s x)
          | none => none) else none
        | none => none
      | none => none) else none
    | _, _, _ => none
  | .copy, [d, s] => match (argTypes[0]?).bind P.underlying, resX P d, resX P s with
    | some (.slice e), some d, some s => (szOf P e).bind fun n => some (.copy n d s)
    | _, _, _ => none
  | .max, l => (resXs P l).map .max
  | .min, l => (resXs P l).map .min
  | _, _ => none
def resOp : Op → Option AOp
  | .move x | .assign x => (resX P x).map .mv
  | .pick c a b => match resX P c, resX P a, resX P b with
    | some c, some a, some b => some (.pick c a b)
    | _, _, _ => none
  | .alloc e => ((P.info? e).bind (·.zero)).bind fun z => (absL z.cells.toList).map .alloc
  | .box _ x => (resX P x).map .box
  | .build t parts => resBuild P t parts
  | .buildSlice t len parts => resBuildSlice P t len parts
  | .load t a => match ldKind P t, resX P a with
    | some k, some x => some (.load k x)
    | _, _ => none
  | .store t a v => match szOf P t, resX P a, resX P v with
    | some n, some a, some v => some (.store n a v)
    | _, _, _ => none
  | .fieldAddr s x f => match P.underlying s, resX P x with
    | some (.struct fs), some x => match fs[f]? with
      | some fl => match szOf P fl.type with
        | some n => if n = 0 then none else some (.fieldAddr fl.offset x)
        | none => none
      | none => none
    | _, _ => none
  | .field t x f => match P.underlying t, resX P x with
    | some (.struct fs), some x => match fs[f]? with
      | some fl => match ldKind P fl.type with
        | some k => some (.field fl.offset k x)
        | none => none
      | none => none
    | _, _ => none
  | .indexAddr t x i => resIdxAddr P t x i
  | .index t x i => resIdx P t x i
  | .binOp op t x y _ => resBin P op t x y
  | .unOp op _ x => (resX P x).map (.un op)
  | .convert src dst x => resConv P src dst x
  | .makeInterface t x => match P.underlying t, resX P x with
    | some (.interface _), _ => none
    | some _, some x => some (.mkIface t x)
    | _, _ => none
  | .makeFunc fn first cap => match fn with
    | .yield _ => none
    | _ => match resXs P first.toList, resXs P cap.toList with
      | some a, some b => some (.mkFunc fn a b)
      | _, _ => none
  | .makeMap _ none => some .mkMap
  | .makeSlice t l c => resMkSlice P t l c
  | .slice t x lo hi mx => resSlice P t x lo hi mx
  | .lookup t x k ok => resLookup P t x k ok
  | .mapUpdate t m k v | .insert t m k v => resMapSet P t m k v
  | .range t x => match P.underlying t, resX P x with
    | some .string, some x => some (.rangeStr x)
    | _, _ => none
  | .next it true => (resX P it).map .nextStr
  | .extract x i => (resX P x).map (.extract i)
  | .nilCheck x => (resX P x).map .nilCheck
  | .typeAssert x _ t ok => match P.underlying t, zeroA P t, resX P x with
    | some (.interface _), _, _ => none
    | some _, some z, some x => some (.assertT t ok z x)
    | _, _, _ => none
  | .call { callee := .builtin b, args, argTypes } => resBuiltin P b args.toList argTypes
  | _ => none
def methTab (name : String) : List (TypeId × Nat) :=
  (List.range P.types.size).filterMap fun t =>
    match P.info? t with
    | some i => match i.methods.find? (·.name == name) with
      | some m => match m.path.toList, m.func, P.underlying t with
        | [], some (_, false), some (.pointer _) => none
        | [], some (f, true), some (.pointer _) => some (t, f)
        | [], some (f, false), some _ => some (t, f)
        | _, _, _ => none
      | none => none
    | none => none
def resGuard (ops : Array Oper) (g : Option (Nat × Bool)) : Option (Option (Nat × Bool)) :=
  match g with
  | none => some none
  | some (j, b) => match (ops[j]?).bind (·.dst) with
    | some t => some (some (t, b))
    | none => none
def resIt (ops : Array Oper) (o : Oper) : Option It :=
  match resGuard ops o.guard with
  | none => none
  | some g => match o.op with
    | .call { callee := .value f, args, .. } => match resX P f, resXs P args.toList with
      | some f, some l => some (.call o.dst g f l)
      | _, _ => none
    | .call { callee := .invoke x name, args, .. } => match resX P x, resXs P args.toList with
      | some x, some l => some (.inv o.dst g (methTab P name) x l)
      | _, _ => none
    | op => some (.op o.dst g ((resOp P op).getD .fail))
def resIts (ops : Array Oper) : List Oper → Option (List It)
  | [] => some []
  | o :: r => match resIt P ops o, resIts ops r with
    | some i, some l => some (i :: l)
    | _, _ => none
end Go.Am
namespace Go.Am
open Go.RowKit
structure Loc where
  blk : Nat
  base : Nat
  ext : Nat
abbrev RMap := Nat → Option Loc
def RLe (ρ ρ' : RMap) : Prop := ∀ i l, ρ i = some l → ρ' i = some l
theorem RLe.refl (ρ : RMap) : RLe ρ ρ := fun _ _ h => h
theorem RLe.trans {a b c : RMap} (h : RLe a b) (k : RLe b c) : RLe a c := fun i l e => k i l (h i l e)
def SlRel (ρ : RMap) (o : Option (Nat × Nat)) (len : Nat) (cap : Option Nat) (sz : Nat) (v : Value) : Prop :=
  match o with
  | none => len = 0 ∧ (∀ c, cap = some c → c = 0) ∧ v = .slice none 0 0
  | some (i, off) => ∃ l a ccap, ρ i = some l ∧ v = .slice (some a) len ccap ∧ a.spot = none ∧ (ccap = 0 ∨ (a.block = l.blk ∧ a.off = l.base + off)) ∧ len ≤ ccap ∧
      (ccap = 0 ∨ off + ccap * sz ≤ l.ext) ∧ (∀ c, cap = some c → ccap = c)
mutual
def VRel (ρ : RMap) : AV → Value → Prop
  | .int k n, v => v = .int k n
  | .bool b, v => v = .bool b
  | .str s, v => ∃ bs : ByteArray, v = .string bs ∧ bs.data.toList = s
  | .ptr none, v => v = .pointer none
  | .ptr (some (i, o)), v => ∃ l, ρ i = some l ∧ v = .pointer (some ⟨l.blk, l.base + o, none⟩)
  | .slice o len cap sz, v => SlRel ρ o len cap sz v
  | .map none, v => v = .map none
  | .map (some i), v => ∃ l, ρ i = some l ∧ v = .map (some l.blk)
  | .func fn first cap, v => ∃ f c, v = .func fn f c ∧ (∀ l, fn ≠ .yield l) ∧ VRelL ρ first f.toList ∧ VRelL ρ cap c.toList
  | .yieldf i, v => ∃ l, ρ i = some l ∧ v = .func (.yield l.blk) #[] #[]
  | .nilFunc, v => v = .nilFunc
  | .iface t x, v => ∃ y, v = .iface t y ∧ VRel ρ x y
  | .nilIface, v => v = .nilIface
  | .agg l, v => ∃ c, v = .agg c ∧ VRelL ρ l c.toList
  | .tuple l, v => ∃ c, v = .tuple c ∧ VRelL ρ l c.toList
def VRelL (ρ : RMap) : List AV → List Value → Prop
  | [], vs => vs = []
  | x :: r, vs => ∃ y ys, vs = y :: ys ∧ VRel ρ x y ∧ VRelL ρ r ys
end
mutual
theorem VRel.mono {ρ ρ' : RMap} (h : RLe ρ ρ') : ∀ (x : AV) (v : Value), VRel ρ x v → VRel ρ' x v
  | .int .., _, e | .bool _, _, e | .str _, _, e | .ptr none, _, e | .map none, _, e | .nilFunc, _, e | .nilIface, _, e => by simpa [VRel] using e
  | .ptr (some (i, o)), v, e => by
    simp only [VRel] at e ⊢
    obtain ⟨l, a, b⟩ := e
    exact ⟨l, h _ _ a, b⟩
  | .slice o len cap sz, v, e => by
    simp only [VRel] at e ⊢
    cases o with
    | none => exact e
    | some p =>
      obtain ⟨l, a, c, q, r⟩ := e
      exact ⟨l, a, c, h _ _ q, r⟩
  | .map (some i), v, e => by
    simp only [VRel] at e ⊢
    obtain ⟨l, a, b⟩ := e
    exact ⟨l, h _ _ a, b⟩
  | .func fn first cap, v, e => by
    simp only [VRel] at e ⊢
    obtain ⟨f, c, q, y, r, s⟩ := e
    exact ⟨f, c, q, y, VRelL.mono h _ _ r, VRelL.mono h _ _ s⟩
  | .yieldf i, v, e => by
    simp only [VRel] at e ⊢
    obtain ⟨l, a, b⟩ := e
    exact ⟨l, h _ _ a, b⟩
  | .iface t x, v, e => by
    simp only [VRel] at e ⊢
    obtain ⟨y, q, r⟩ := e
    exact ⟨y, q, VRel.mono h _ _ r⟩
  | .agg l, v, e => by
    simp only [VRel] at e ⊢
    obtain ⟨c, q, r⟩ := e
    exact ⟨c, q, VRelL.mono h _ _ r⟩
  | .tuple l, v, e => by
    simp only [VRel] at e ⊢
    obtain ⟨c, q, r⟩ := e
    exact ⟨c, q, VRelL.mono h _ _ r⟩
theorem VRelL.mono {ρ ρ' : RMap} (h : RLe ρ ρ') : ∀ (l : List AV) (vs : List Value), VRelL ρ l vs → VRelL ρ' l vs
  | [], _, e => by simpa [VRelL] using e
  | x :: r, vs, e => by
    simp only [VRelL] at e ⊢
    obtain ⟨y, ys, q, a, b⟩ := e
    exact ⟨y, ys, q, VRel.mono h _ _ a, VRelL.mono h _ _ b⟩
end
section lists
variable {ρ : RMap}
theorem VRelL.cons_iff {x : AV} {r : List AV} {vs : List Value} : VRelL ρ (x :: r) vs ↔ ∃ y ys, vs = y :: ys ∧ VRel ρ x y ∧ VRelL ρ r ys := by simp only [VRelL]
theorem VRelL.nil_iff {vs : List Value} : VRelL ρ [] vs ↔ vs = [] := by simp only [VRelL]
theorem VRelL.mk_nil : VRelL ρ [] [] := VRelL.nil_iff.2 rfl
theorem VRelL.mk_cons {x : AV} {r : List AV} {y : Value} {ys : List Value} (h : VRel ρ x y) (k : VRelL ρ r ys) : VRelL ρ (x :: r) (y :: ys) := VRelL.cons_iff.2 ⟨y, ys, rfl, h, k⟩
theorem VRelL.length : ∀ {l : List AV} {vs : List Value}, VRelL ρ l vs → l.length = vs.length
  | [], vs, h => by have e := VRelL.nil_iff.1 h; subst e; rfl
  | x :: r, vs, h => by
    obtain ⟨y, ys, rfl, _, hr⟩ := VRelL.cons_iff.1 h
    simp [VRelL.length hr]
theorem VRelL.get : ∀ {l : List AV} {vs : List Value} {i : Nat} {x : AV}, VRelL ρ l vs → l[i]? = some x → ∃ y, vs[i]? = some y ∧ VRel ρ x y
  | [], vs, i, x, _, e => by simp at e
  | a :: r, vs, 0, x, h, e => by
    obtain ⟨y, ys, rfl, ha, _⟩ := VRelL.cons_iff.1 h
    simp only [List.getElem?_cons_zero, Option.some.injEq] at e
    subst e
    exact ⟨y, rfl, ha⟩
  | a :: r, vs, i + 1, x, h, e => by
    obtain ⟨y, ys, rfl, _, hr⟩ := VRelL.cons_iff.1 h
    simp only [List.getElem?_cons_succ] at e ⊢
    exact VRelL.get hr e
theorem VRelL.of_get : ∀ {l : List AV} {vs : List Value}, l.length = vs.length → (∀ (i : Nat) (x : AV), l[i]? = some x → ∃ y, vs[i]? = some y ∧ VRel ρ x y) → VRelL ρ l vs
  | [], vs, hl, _ => by cases vs with | nil => exact .mk_nil | cons _ _ => simp at hl
  | a :: r, vs, hl, h => by
    cases vs with
    | nil => simp at hl
    | cons y ys =>
      obtain ⟨y', hy, ha⟩ := h 0 a rfl
      simp only [List.getElem?_cons_zero, Option.some.injEq] at hy
      subst hy
      exact .mk_cons ha (VRelL.of_get (by simpa using hl) fun i x e => by simpa using h (i + 1) x (by simpa using e))
theorem VRelL.append {l r : List AV} {vs us : List Value} (h : VRelL ρ l vs) (k : VRelL ρ r us) : VRelL ρ (l ++ r) (vs ++ us) := by
  induction l generalizing vs with
  | nil => rw [VRelL.nil_iff.1 h]; simpa using k
  | cons x l ih =>
    obtain ⟨y, ys, rfl, ha, hr⟩ := VRelL.cons_iff.1 h
    exact .mk_cons ha (ih hr)
theorem VRelL.take {l : List AV} {vs : List Value} (n : Nat) (h : VRelL ρ l vs) : VRelL ρ (l.take n) (vs.take n) := by
  refine .of_get (by simp [h.length]) fun i x e => ?_
  rw [List.getElem?_take] at e
  split at e
  · rename_i hi
    rw [List.getElem?_take, if_pos hi]
    exact h.get e
  · cases e
theorem VRelL.drop {l : List AV} {vs : List Value} (n : Nat) (h : VRelL ρ l vs) : VRelL ρ (l.drop n) (vs.drop n) := by
  refine .of_get (by simp [h.length]) fun i x e => ?_
  rw [List.getElem?_drop] at e ⊢
  exact h.get e
theorem VRelL.map {α : Type} {f : α → AV} {g : α → Value} : ∀ {l : List α}, (∀ x ∈ l, VRel ρ (f x) (g x)) → VRelL ρ (l.map f) (l.map g)
  | [], _ => .mk_nil
  | x :: r, h => .mk_cons (h x (by simp)) (VRelL.map fun y hy => h y (by simp [hy]))
end lists
section values
variable {ρ : RMap}
theorem VRel.int {k : IntKind} {n : Int} : VRel ρ (.int k n) (.int k n) := by simp [VRel]
theorem VRel.bool {b : Bool} : VRel ρ (.bool b) (.bool b) := by simp [VRel]
theorem VRel.str {s : ByteArray} : VRel ρ (.str s.data.toList) (.string s) := by simp [VRel]
theorem VRel.ptr {i o : Nat} {l : Loc} (h : ρ i = some l) : VRel ρ (.ptr (some (i, o))) (.pointer (some ⟨l.blk, l.base + o, none⟩)) := by simp [VRel, h]
theorem VRel.agg {l : List AV} {c : Array Value} (h : VRelL ρ l c.toList) : VRel ρ (.agg l) (.agg c) := by simpa [VRel] using h
theorem VRel.tuple {l : List AV} {c : Array Value} (h : VRelL ρ l c.toList) : VRel ρ (.tuple l) (.tuple c) := by simpa [VRel] using h
theorem VRel.U : VRel ρ U undef := VRel.tuple (by simp [VRelL])
theorem VRel.cells {x : AV} {v : Value} (h : VRel ρ x v) : VRelL ρ x.cells v.cells.toList := by
  cases x with
  | agg l =>
    simp only [VRel] at h
    obtain ⟨c, rfl, hl⟩ := h
    exact hl
  | slice o len cap sz =>
    have h' := h
    simp only [VRel] at h
    cases o with
    | none => obtain ⟨_, _, rfl⟩ := h; exact .mk_cons h' .mk_nil
    | some p => obtain ⟨_, _, _, _, rfl, _⟩ := h; exact .mk_cons h' .mk_nil
  | ptr o =>
    have h' := h
    cases o with
    | none => simp only [VRel] at h; subst h; exact .mk_cons h' .mk_nil
    | some p => simp only [VRel] at h; obtain ⟨_, _, rfl⟩ := h; exact .mk_cons h' .mk_nil
  | map o =>
    have h' := h
    cases o with
    | none => simp only [VRel] at h; subst h; exact .mk_cons h' .mk_nil
    | some p => simp only [VRel] at h; obtain ⟨_, _, rfl⟩ := h; exact .mk_cons h' .mk_nil
  | int k n => have h' := h; simp only [VRel] at h; subst h; exact .mk_cons h' .mk_nil
  | bool b => have h' := h; simp only [VRel] at h; subst h; exact .mk_cons h' .mk_nil
  | nilFunc => have h' := h; simp only [VRel] at h; subst h; exact .mk_cons h' .mk_nil
  | nilIface => have h' := h; simp only [VRel] at h; subst h; exact .mk_cons h' .mk_nil
  | str s => have h' := h; simp only [VRel] at h; obtain ⟨_, rfl, _⟩ := h; exact .mk_cons h' .mk_nil
  | func fn f c => have h' := h; simp only [VRel] at h; obtain ⟨_, _, rfl, _⟩ := h; exact .mk_cons h' .mk_nil
  | yieldf i => have h' := h; simp only [VRel] at h; obtain ⟨_, _, rfl⟩ := h; exact .mk_cons h' .mk_nil
  | iface t x => have h' := h; simp only [VRel] at h; obtain ⟨_, rfl, _⟩ := h; exact .mk_cons h' .mk_nil
  | tuple l => have h' := h; simp only [VRel] at h; obtain ⟨_, rfl, _⟩ := h; exact .mk_cons h' .mk_nil
theorem VRel.one {x : AV} {v : Value} (h : VRel ρ x v) (k : x.one = true) : v.oneCell = true := by
  cases x with
  | agg l => simp [AV.one] at k
  | tuple l => simp [AV.one] at k
  | slice o len cap sz =>
    simp only [VRel] at h
    cases o with
    | none => obtain ⟨_, _, rfl⟩ := h; rfl
    | some p => obtain ⟨_, _, _, _, rfl, _⟩ := h; rfl
  | ptr o =>
    cases o with
    | none => simp only [VRel] at h; subst h; rfl
    | some p => simp only [VRel] at h; obtain ⟨_, _, rfl⟩ := h; rfl
  | map o =>
    cases o with
    | none => simp only [VRel] at h; subst h; rfl
    | some p => simp only [VRel] at h; obtain ⟨_, _, rfl⟩ := h; rfl
  | int k n => simp only [VRel] at h; subst h; rfl
  | bool b => simp only [VRel] at h; subst h; rfl
  | nilFunc => simp only [VRel] at h; subst h; rfl
  | nilIface => simp only [VRel] at h; subst h; rfl
  | str s => simp only [VRel] at h; obtain ⟨_, rfl, _⟩ := h; rfl
  | func fn f c => simp only [VRel] at h; obtain ⟨_, _, rfl, _⟩ := h; rfl
  | yieldf i => simp only [VRel] at h; obtain ⟨_, _, rfl⟩ := h; rfl
  | iface t x => simp only [VRel] at h; obtain ⟨_, rfl, _⟩ := h; rfl
end values
def TRel (ρ : RMap) (ts : List AV) (tm : Array Value) : Prop := ts.length = tm.size ∧ ∀ i, VRel ρ (ts.getD i U) (tm.getD i undef)
theorem TRel.mono {ρ ρ' : RMap} {ts : List AV} {tm : Array Value} (h : TRel ρ ts tm) (k : RLe ρ ρ') : TRel ρ' ts tm := ⟨h.1, fun i => VRel.mono k _ _ (h.2 i)⟩
theorem TRel.set {ρ : RMap} {ts : List AV} {tm : Array Value} {x : AV} {v : Value} (h : TRel ρ ts tm) (hv : VRel ρ x v) (i : Nat) : TRel ρ (ts.set i x) (tm.setIfInBounds i v) := by
  refine ⟨by simp [h.1], fun j => ?_⟩
  have hj := h.2 j
  have hl := h.1
  by_cases e : i = j
  · subst e
    by_cases hi : i < ts.length
    · simp [List.getD, Array.getD, hi, hl ▸ hi, hv]
    · have hi' : ¬ i < tm.size := by omega
      simpa [List.getD, Array.getD, hi, hi'] using VRel.U
  · simp only [List.getD, List.getElem?_set_ne e, Array.getD_eq_getD_getElem?, Array.getElem?_setIfInBounds_ne e] at hj ⊢
    exact hj
theorem TRel.put {ρ : RMap} {ts : List AV} {tm : Array Value} {x : AV} {v : Value} (h : TRel ρ ts tm) (hv : VRel ρ x v) (d : Option Nat) (ds : List Deferred) :
    TRel ρ (put d x ts) (({ tmps := tm, defers := ds } : Act).put d v).tmps := by
  cases d with
  | none => exact h
  | some i => exact h.set hv i
def ABlk.own : ABlk → Loc → Nat
  | .cells _ true, m => m.ext
  | .cells l false, _ => l.length
  | _, _ => 0
def ABlk.isCells : ABlk → Bool
  | .cells .. => true
  | _ => false
def ABlk.wr : ABlk → Bool
  | .cells _ w => w
  | _ => true
def Apart (b : ABlk) (l : Loc) (c : ABlk) (m : Loc) : Prop :=
  l.blk ≠ m.blk ∨ (b.isCells = true ∧ c.isCells = true ∧ ((b.wr = false ∧ c.wr = false) ∨ l.base + b.own l ≤ m.base ∨ m.base + c.own m ≤ l.base))
theorem Apart.symm {b c : ABlk} {l m : Loc} (h : Apart b l c m) : Apart c m b l := by
  rcases h with h | ⟨h1, h2, h3⟩
  · exact .inl (Ne.symm h)
  · refine .inr ⟨h2, h1, ?_⟩
    rcases h3 with ⟨a, b⟩ | h | h
    · exact .inl ⟨b, a⟩
    · exact .inr (.inr h)
    · exact .inr (.inl h)
def exCode : Ex → Code
  | .normal => .skip
  | .exit id => .exit id
  | .ret => .ret
def pendRel : Option Ex → Option Code → Prop
  | none, c => c = none
  | some e, c => e ≠ .normal ∧ c = some (exCode e)
def esRel (ρ : RMap) : List (AV × AV) → List MapEntry → Prop
  | [], es => es = []
  | (k, v) :: r, es => ∃ e t, es = e :: t ∧ VRel ρ k e.key ∧ VRel ρ v e.val ∧ esRel ρ r t
theorem esRel.mono {ρ ρ' : RMap} (h : RLe ρ ρ') : ∀ {l : List (AV × AV)} {es : List MapEntry}, esRel ρ l es → esRel ρ' l es
  | [], _, e => e
  | (_, _) :: _, _, ⟨e, t, q, a, b, r⟩ => ⟨e, t, q, VRel.mono h _ _ a, VRel.mono h _ _ b, esRel.mono h r⟩
variable (resolves : Code → AC → Prop)
def BRel (B : Nat) (ρ : RMap) (w : World) : ABlk → Loc → Prop
  | .cells l wr, m => l.length ≤ m.ext ∧ (∀ k x, l[k]? = some x → ∃ y, w.cell? ⟨m.blk, m.base + k, none⟩ = some y ∧ VRel ρ x y) ∧
      (wr = true → B ≤ m.blk ∧ ∀ k, k < m.ext → (∃ y, w.cell? ⟨m.blk, m.base + k, none⟩ = some y) ∧ w.frozen? ⟨m.blk, m.base + k, none⟩ = false)
  | .map es, m => B ≤ m.blk ∧ ∃ c clock, w.heap[m.blk]? = some (.map c clock) ∧ esRel ρ es c.toList
  | .iter s pos, m => B ≤ m.blk ∧ m.base = 0 ∧ ∃ bs : ByteArray, w.heap[m.blk]? = some (.stringIter bs pos) ∧ bs.data.toList = s
  | .loop st pend ts ps assign body, m => B ≤ m.blk ∧ ∃ r : Loop, w.heap[m.blk]? = some (.loop r) ∧ r.state = st ∧ pendRel pend r.pending ∧ TRel ρ ts r.tmps ∧ r.params.toList = ps ∧
      resolves r.assign assign ∧ resolves r.body body
structure SRel (P : Program) (w0 : World) (ρ : RMap) (D : List Nat × List Nat) (σ : AState) (w : World) : Prop where
  below : Below w0.heap.size w0 w
  dom : ∀ i, σ.next ≤ i → ρ i = none ∧ σ.get i = none
  lt : ∀ i l, ρ i = some l → l.blk < w.heap.size
  blk : ∀ i b l, σ.get i = some b → ρ i = some l → BRel resolves w0.heap.size ρ w b l
  sep : ∀ i j b c l m, i ≠ j → σ.get i = some b → σ.get j = some c → ρ i = some l → ρ j = some m → Apart b l c m
  defs : ∀ d ∈ D.1, w0.heap.size ≤ d ∧ w.heap[d]? = some (.deferred (some []))
  nodup : D.1.Nodup
  loops : ∀ d ∈ D.2, w0.heap.size ≤ d ∧ ∃ r : Loop, w.heap[d]? = some (.loop r)
  glob : ∀ g, g < P.globals.size → ∃ l, ρ g = some l ∧ l.blk = g ∧ l.base = 0
end Go.Am
namespace Go.Am
open Go.RowKit
variable {R : Code → AC → Prop} {P : Program} {w0 w w' : World} {ρ ρ' : RMap} {D : List Nat × List Nat} {σ : AState}
def upd (ρ : RMap) (i : Nat) (m : Loc) : RMap := fun j => if j = i then some m else ρ j
theorem upd_same (ρ : RMap) (i : Nat) (m : Loc) : upd ρ i m i = some m := by simp [upd]
theorem upd_ne (ρ : RMap) {i j : Nat} (m : Loc) (h : j ≠ i) : upd ρ i m j = ρ j := by simp [upd, h]
theorem upd_le {i : Nat} {m : Loc} (h : ρ i = none) : RLe ρ (upd ρ i m) := fun j l e => by
  by_cases hj : j = i
  · subst hj; rw [h] at e; cases e
  · rw [upd_ne _ _ hj]; exact e
theorem AState.push_next (σ : AState) (b : ABlk) : (σ.push b).next = σ.next + 1 := rfl
theorem AState.push_get (σ : AState) (b : ABlk) (j : Nat) : (σ.push b).get j = if j = σ.next then some b else σ.get j := rfl
theorem AState.set_next (σ : AState) (i : Nat) (b : ABlk) : (σ.set i b).next = σ.next := rfl
theorem AState.set_get (σ : AState) (i : Nat) (b : ABlk) (j : Nat) : (σ.set i b).get j = if j = i then some b else σ.get j := rfl
theorem AState.kill_next (σ : AState) (i : Nat) : (σ.kill i).next = σ.next := rfl
theorem AState.kill_get (σ : AState) (i : Nat) (j : Nat) : (σ.kill i).get j = if j = i then none else σ.get j := rfl
theorem esRel.length {ρ : RMap} : ∀ {l : List (AV × AV)} {es : List MapEntry}, esRel ρ l es → l.length = es.length
  | [], es, h => by simp only [esRel] at h; subst h; rfl
  | (k, v) :: r, es, h => by
    simp only [esRel] at h
    obtain ⟨e, t, rfl, _, _, hr⟩ := h
    simp [esRel.length hr]
theorem BRel.keep {B : Nat} {b : ABlk} {m : Loc} (h : BRel R B ρ w b m) (hρ : RLe ρ ρ') (hb : w'.heap[m.blk]? = w.heap[m.blk]?) : BRel R B ρ' w' b m := by
  have hc : ∀ k, w'.cell? ⟨m.blk, k, none⟩ = w.cell? ⟨m.blk, k, none⟩ := fun k => World.cell?_of_block (w := w) hb
  have hf : ∀ k, w'.frozen? ⟨m.blk, k, none⟩ = w.frozen? ⟨m.blk, k, none⟩ := fun k => World.frozen?_of_block (w := w) hb
  cases b with
  | cells l wr =>
    obtain ⟨h1, h2, h3⟩ := h
    refine ⟨h1, fun k x e => ?_, fun e => ⟨(h3 e).1, fun k hk => ?_⟩⟩
    · obtain ⟨y, hy, hv⟩ := h2 k x e
      exact ⟨y, by rw [hc]; exact hy, VRel.mono hρ _ _ hv⟩
    · obtain ⟨hy, hz⟩ := (h3 e).2 k hk
      exact ⟨by rw [hc]; exact hy, by rw [hf]; exact hz⟩
  | map es =>
    obtain ⟨h1, c, cl, h2, h3⟩ := h
    exact ⟨h1, c, cl, by rw [hb]; exact h2, esRel.mono hρ h3⟩
  | iter s pos =>
    obtain ⟨h1, h0, bs, h2, h3⟩ := h
    exact ⟨h1, h0, bs, by rw [hb]; exact h2, h3⟩
  | loop st pend ts ps assign body =>
    obtain ⟨h1, r, h2, h3, h4, h5, h6⟩ := h
    exact ⟨h1, r, by rw [hb]; exact h2, h3, h4, h5.mono hρ, h6⟩
theorem lt_of_some {w : World} {i : Nat} {o : Obj} (h : w.heap[i]? = some o) : i < w.heap.size := by
  rcases Nat.lt_or_ge i w.heap.size with h' | h'
  · exact h'
  · rw [Array.getElem?_eq_none h'] at h; cases h
theorem SRel.garbage (h : SRel R P w0 ρ D σ w) (hw : Below w.heap.size w w') : SRel R P w0 ρ D σ w' where
  below := h.below.trans (hw.mono h.below.size)
  dom := h.dom
  lt i l e := Nat.lt_of_lt_of_le (h.lt i l e) hw.size
  blk i b l e1 e2 := (h.blk i b l e1 e2).keep (RLe.refl _) (hw.block _ (h.lt i l e2))
  sep := h.sep
  defs d hd := ⟨(h.defs d hd).1, by rw [hw.block _ (lt_of_some (h.defs d hd).2)]; exact (h.defs d hd).2⟩
  nodup := h.nodup
  loops d hd := by
    obtain ⟨h1, r, h2⟩ := h.loops d hd
    exact ⟨h1, r, by rw [hw.block _ (lt_of_some h2)]; exact h2⟩
  glob := h.glob
theorem SRel.le_next (h : SRel R P w0 ρ D σ w) (m : Loc) : RLe ρ (upd ρ σ.next m) := upd_le (h.dom _ (Nat.le_refl _)).1
def RX (n : Nat) (ρ ρ' : RMap) : Prop := ∀ j, j < n → ρ' j = ρ j
theorem RX.refl (n : Nat) (ρ : RMap) : RX n ρ ρ := fun _ _ => rfl
theorem RX.trans {n m : Nat} {a b c : RMap} (h : RX n a b) (k : RX m b c) (hn : n ≤ m) : RX n a c := fun j hj => (k j (by omega)).trans (h j hj)
theorem RX.mono {n m : Nat} {a b : RMap} (h : RX n a b) (hm : m ≤ n) : RX m a b := fun j hj => h j (by omega)
theorem SRel.rx (_h : SRel R P w0 ρ D σ w) (m : Loc) : RX σ.next ρ (upd ρ σ.next m) := fun j hj => upd_ne _ _ (by omega)
theorem SRel.le (h : SRel R P w0 ρ D σ w) (k : RX σ.next ρ ρ') : RLe ρ ρ' := fun i l e => by
  rcases Nat.lt_or_ge i σ.next with hi | hi
  · rw [k i hi]; exact e
  · rw [(h.dom i hi).1] at e; cases e
theorem SRel.push (h : SRel R P w0 ρ D σ w) {b : ABlk} {m : Loc} (hw : Below w.heap.size w w') (hm : w.heap.size ≤ m.blk) (hlt : m.blk < w'.heap.size)
    (hb : BRel R w0.heap.size (upd ρ σ.next m) w' b m) : SRel R P w0 (upd ρ σ.next m) D (σ.push b) w' where
  below := h.below.trans (hw.mono h.below.size)
  dom i hi := by
    have hi' : σ.next + 1 ≤ i := hi
    have hne : i ≠ σ.next := by omega
    have := h.dom i (by omega)
    exact ⟨by rw [upd_ne _ _ hne]; exact this.1, by rw [AState.push_get, if_neg hne]; exact this.2⟩
  lt i l e := by
    by_cases hi : i = σ.next
    · subst hi; rw [upd_same] at e; cases e; exact hlt
    · rw [upd_ne _ _ hi] at e; exact Nat.lt_of_lt_of_le (h.lt i l e) hw.size
  blk i c l e1 e2 := by
    by_cases hi : i = σ.next
    · subst hi; rw [upd_same] at e2; cases e2
      rw [AState.push_get, if_pos rfl] at e1; cases e1; exact hb
    · rw [upd_ne _ _ hi] at e2; rw [AState.push_get, if_neg hi] at e1
      exact (h.blk i c l e1 e2).keep (h.le_next m) (hw.block _ (h.lt i l e2))
  sep i j b1 b2 l1 l2 hij e1 e2 r1 r2 := by
    by_cases hi : i = σ.next
    · subst hi
      have hj : j ≠ σ.next := Ne.symm hij
      rw [upd_same] at r1; cases r1
      rw [upd_ne _ _ hj] at r2
      exact .inl (by have := h.lt j l2 r2; omega)
    · by_cases hj : j = σ.next
      · subst hj
        rw [upd_same] at r2; cases r2
        rw [upd_ne _ _ hi] at r1
        exact .inl (by have := h.lt i l1 r1; omega)
      · rw [upd_ne _ _ hi] at r1; rw [upd_ne _ _ hj] at r2
        rw [AState.push_get, if_neg hi] at e1; rw [AState.push_get, if_neg hj] at e2
        exact h.sep i j b1 b2 l1 l2 hij e1 e2 r1 r2
  defs d hd := ⟨(h.defs d hd).1, by rw [hw.block _ (lt_of_some (h.defs d hd).2)]; exact (h.defs d hd).2⟩
  nodup := h.nodup
  loops d hd := by
    obtain ⟨h1, r, h2⟩ := h.loops d hd
    exact ⟨h1, r, by rw [hw.block _ (lt_of_some h2)]; exact h2⟩
  glob g hg := by
    obtain ⟨l, a, b⟩ := h.glob g hg
    exact ⟨l, h.le_next m _ _ a, b⟩
theorem SRel.kill (h : SRel R P w0 ρ D σ w) (i : Nat) : SRel R P w0 ρ D (σ.kill i) w where
  below := h.below
  dom j hj := ⟨(h.dom j hj).1, by rw [AState.kill_get]; split; rfl; exact (h.dom j hj).2⟩
  lt := h.lt
  blk j b l e1 e2 := by
    rw [AState.kill_get] at e1
    split at e1
    · cases e1
    · exact h.blk j b l e1 e2
  sep j k b c l m hjk e1 e2 := by
    rw [AState.kill_get] at e1 e2
    split at e1
    · cases e1
    · split at e2
      · cases e2
      · exact h.sep j k b c l m hjk e1 e2
  defs := h.defs
  nodup := h.nodup
  loops := h.loops
  glob := h.glob
structure Wrote (w w' : World) (blk lo hi : Nat) : Prop where
  os : w'.os = w.os
  tape : w'.tape = w.tape
  output : w'.output = w.output
  size : w'.heap.size = w.heap.size
  other : ∀ k, k ≠ blk → w'.heap[k]? = w.heap[k]?
  cell : ∀ k, (k < lo ∨ hi ≤ k) → w'.cell? ⟨blk, k, none⟩ = w.cell? ⟨blk, k, none⟩
  frozen : ∀ a, w'.frozen? a = w.frozen? a
  isCells : ∃ c t f c' f', w.heap[blk]? = some (.cells c t f) ∧ w'.heap[blk]? = some (.cells c' t f')
theorem Wrote.below {blk lo hi B : Nat} (h : Wrote w w' blk lo hi) (hB : B ≤ blk) : Below B w w' :=
  ⟨h.os, h.tape, h.output, Nat.le_of_eq h.size.symm, fun k hk => h.other k (by omega)⟩
theorem BRel.wrote {B blk lo hi : Nat} {b c : ABlk} {m l : Loc} (h : BRel R B ρ w b l) (hW : Wrote w w' blk lo hi) (hm : m.blk = blk) (hlo : m.base ≤ lo) (hhi : hi ≤ m.base + m.ext)
    (hc : c.isCells = true) (hcw : c.wr = true) (hap : Apart c m b l) (hρ : RLe ρ ρ') : BRel R B ρ' w' b l := by
  by_cases hne : l.blk = blk
  · rcases hap with hap | ⟨_, hbc, hap⟩
    · exact absurd (hm.trans hne.symm) hap
    · cases b with
      | cells x wr =>
        obtain ⟨h1, h2, h3⟩ := h
        have hown : c.own m = m.ext := by cases c with
          | cells y wy => simp only [ABlk.wr] at hcw; subst hcw; rfl
          | _ => simp [ABlk.isCells] at hc
        have hout : ∀ k, k < (ABlk.cells x wr).own l → (l.base + k < lo ∨ hi ≤ l.base + k) := by
          intro k hk
          rcases hap with ⟨a, _⟩ | a | a
          · rw [hcw] at a; cases a
          · rw [hown] at a; right; omega
          · left; omega
        have hlen : ∀ k, k < x.length → k < (ABlk.cells x wr).own l := by
          intro k hk
          cases wr
          · exact hk
          · show k < l.ext; omega
        refine ⟨h1, fun k y e => ?_, fun e => ⟨(h3 e).1, fun k hk => ?_⟩⟩
        · have hk : k < x.length := by
            rcases Nat.lt_or_ge k x.length with h' | h'
            · exact h'
            · rw [List.getElem?_eq_none h'] at e; cases e
          obtain ⟨z, hz, hv⟩ := h2 k y e
          refine ⟨z, ?_, VRel.mono hρ _ _ hv⟩
          rw [hne, hW.cell _ (hout k (hlen k hk)), ← hne]; exact hz
        · obtain ⟨hy, hz⟩ := (h3 e).2 k hk
          subst e
          refine ⟨?_, by rw [hW.frozen]; exact hz⟩
          rw [hne, hW.cell _ (hout k hk), ← hne]; exact hy
      | _ => simp [ABlk.isCells] at hbc
  · exact h.keep hρ (hW.other _ hne)
theorem SRel.write (h : SRel R P w0 ρ D σ w) {i : Nat} {l l' : List AV} {m : Loc} {lo hi' : Nat} (hi : σ.get i = some (.cells l true)) (hρ : ρ i = some m)
    (hW : Wrote w w' m.blk lo hi') (hlo : m.base ≤ lo) (hhi : hi' ≤ m.base + m.ext) (hb : BRel R w0.heap.size ρ w' (.cells l' true) m) :
    SRel R P w0 ρ D (σ.set i (.cells l' true)) w' := by
  have hBm : w0.heap.size ≤ m.blk := ((h.blk i _ m hi hρ).2.2 rfl).1
  obtain ⟨c, t, f, c', f', hcw, hcw'⟩ := hW.isCells
  exact {
    below := h.below.trans (hW.below hBm)
    dom := fun j hj => ⟨(h.dom j hj).1, by
      rw [AState.set_get]
      have : j ≠ i := by
        intro e; subst e
        rw [(h.dom j hj).2] at hi; cases hi
      rw [if_neg this]; exact (h.dom j hj).2⟩
    lt := fun j l e => by rw [hW.size]; exact h.lt j l e
    blk := fun j b l e1 e2 => by
      rw [AState.set_get] at e1
      by_cases hj : j = i
      · subst hj
        rw [if_pos rfl] at e1; cases e1
        rw [hρ] at e2; cases e2
        exact hb
      · rw [if_neg hj] at e1
        exact (h.blk j b l e1 e2).wrote (c := .cells _ true) hW rfl hlo hhi rfl rfl (h.sep i j _ _ _ _ (Ne.symm hj) hi e1 hρ e2) (RLe.refl _)
    sep := fun j k b c l1 l2 hjk e1 e2 r1 r2 => by
      have key : ∀ (k : Nat) (c : ABlk) (l2 : Loc), k ≠ i → σ.get k = some c → ρ k = some l2 → Apart (.cells l' true) m c l2 := fun k c l2 hk e r => by
        have := h.sep i k _ _ _ _ (Ne.symm hk) hi e hρ r
        exact this
      rw [AState.set_get] at e1 e2
      by_cases hj : j = i
      · subst hj
        rw [if_pos rfl] at e1; cases e1
        rw [if_neg (Ne.symm hjk)] at e2
        rw [hρ] at r1; cases r1
        exact key k c l2 (Ne.symm hjk) e2 r2
      · rw [if_neg hj] at e1
        by_cases hk : k = i
        · subst hk
          rw [if_pos rfl] at e2; cases e2
          rw [hρ] at r2; cases r2
          exact (key j b l1 hj e1 r1).symm
        · rw [if_neg hk] at e2
          exact h.sep j k b c l1 l2 hjk e1 e2 r1 r2
    defs := fun d hd => by
      obtain ⟨h1, h2⟩ := h.defs d hd
      refine ⟨h1, ?_⟩
      rw [hW.other d (by intro e; subst e; rw [hcw] at h2; cases h2)]; exact h2
    nodup := h.nodup
    loops := fun d hd => by
      obtain ⟨h1, r, h2⟩ := h.loops d hd
      refine ⟨h1, r, ?_⟩
      rw [hW.other d (by intro e; subst e; rw [hcw] at h2; cases h2)]; exact h2
    glob := h.glob }
theorem SRel.move (h : SRel R P w0 ρ D σ w) {i o : Nat} {l l' : List AV} {m : Loc} {lo hi' : Nat} (hi : σ.get i = some (.cells l true)) (hρ : ρ i = some m)
    (hW : Wrote w w' m.blk lo hi') (hlo : m.base ≤ lo) (hhi : hi' ≤ m.base + m.ext) (ho : o ≤ m.ext)
    (hb : BRel R w0.heap.size (upd ρ σ.next ⟨m.blk, m.base + o, m.ext - o⟩) w' (.cells l' true) ⟨m.blk, m.base + o, m.ext - o⟩) :
    SRel R P w0 (upd ρ σ.next ⟨m.blk, m.base + o, m.ext - o⟩) D ((σ.kill i).push (.cells l' true)) w' := by
  have hBm : w0.heap.size ≤ m.blk := ((h.blk i _ m hi hρ).2.2 rfl).1
  obtain ⟨c, t, f, c', f', hcw, hcw'⟩ := hW.isCells
  have hin : i ≠ σ.next := by
    intro e; subst e
    rw [(h.dom _ (Nat.le_refl _)).2] at hi; cases hi
  have get : ∀ j, ((σ.kill i).push (.cells l' true)).get j = if j = σ.next then some (.cells l' true) else if j = i then none else σ.get j := fun j => rfl
  have key : ∀ (k : Nat) (c : ABlk) (l2 : Loc), k ≠ i → σ.get k = some c → ρ k = some l2 → Apart (.cells l' true) ⟨m.blk, m.base + o, m.ext - o⟩ c l2 := fun k c l2 hk e r => by
    have := h.sep i k _ _ _ _ (Ne.symm hk) hi e hρ r
    rcases this with a | ⟨a, b, c⟩
    · exact .inl a
    · refine .inr ⟨rfl, b, ?_⟩
      simp only [ABlk.own, ABlk.wr] at c ⊢
      rcases c with ⟨c, _⟩ | c | c
      · cases c
      · right; left; omega
      · right; right; omega
  exact {
    below := h.below.trans (hW.below hBm)
    dom := fun j hj => by
      have hj' : σ.next + 1 ≤ j := hj
      have hne : j ≠ σ.next := by omega
      have := h.dom j (by omega)
      refine ⟨by rw [upd_ne _ _ hne]; exact this.1, ?_⟩
      rw [get, if_neg hne]; split; rfl; exact this.2
    lt := fun j l e => by
      rw [hW.size]
      by_cases hj : j = σ.next
      · subst hj; rw [upd_same] at e; cases e; exact h.lt i m hρ
      · rw [upd_ne _ _ hj] at e; exact h.lt j l e
    blk := fun j b l e1 e2 => by
      rw [get] at e1
      by_cases hj : j = σ.next
      · subst hj
        rw [if_pos rfl] at e1; cases e1
        rw [upd_same] at e2; cases e2
        exact hb
      · rw [if_neg hj] at e1; rw [upd_ne _ _ hj] at e2
        split at e1
        · cases e1
        · rename_i hji
          exact (h.blk j b l e1 e2).wrote (c := .cells _ true) hW rfl hlo hhi rfl rfl (h.sep i j _ _ _ _ (Ne.symm hji) hi e1 hρ e2) (h.le_next _)
    sep := fun j k b c l1 l2 hjk e1 e2 r1 r2 => by
      rw [get] at e1 e2
      by_cases hj : j = σ.next
      · subst hj
        have hk : k ≠ σ.next := Ne.symm hjk
        rw [if_pos rfl] at e1; cases e1
        rw [if_neg hk] at e2
        rw [upd_same] at r1; cases r1
        rw [upd_ne _ _ hk] at r2
        split at e2
        · cases e2
        · rename_i hki
          exact key k c l2 hki e2 r2
      · rw [if_neg hj] at e1
        rw [upd_ne _ _ hj] at r1
        split at e1
        · cases e1
        · rename_i hji
          by_cases hk : k = σ.next
          · subst hk
            rw [if_pos rfl] at e2; cases e2
            rw [upd_same] at r2; cases r2
            exact (key j b l1 hji e1 r1).symm
          · rw [if_neg hk] at e2
            rw [upd_ne _ _ hk] at r2
            split at e2
            · cases e2
            · exact h.sep j k b c l1 l2 hjk e1 e2 r1 r2
    defs := fun d hd => by
      obtain ⟨h1, h2⟩ := h.defs d hd
      refine ⟨h1, ?_⟩
      rw [hW.other d (by intro e; subst e; rw [hcw] at h2; cases h2)]; exact h2
    nodup := h.nodup
    loops := fun d hd => by
      obtain ⟨h1, r, h2⟩ := h.loops d hd
      refine ⟨h1, r, ?_⟩
      rw [hW.other d (by intro e; subst e; rw [hcw] at h2; cases h2)]; exact h2
    glob := fun g hg => by
      obtain ⟨l, a, b⟩ := h.glob g hg
      exact ⟨l, h.le_next _ _ _ a, b⟩ }
theorem SRel.setObj (h : SRel R P w0 ρ D σ w) {i : Nat} {b b' : ABlk} {m : Loc} {o : Obj} (hi : σ.get i = some b) (hnc : b.isCells = false) (hρ : ρ i = some m)
    (hd : w.heap[m.blk]? ≠ some (.deferred (some []))) (hl : ∀ r, w.heap[m.blk]? = some (.loop r) → ∃ r', o = .loop r') (hBm : w0.heap.size ≤ m.blk)
    (hb : BRel R w0.heap.size ρ { w with heap := w.heap.setIfInBounds m.blk o } b' m) :
    SRel R P w0 ρ D (σ.set i b') { w with heap := w.heap.setIfInBounds m.blk o } := by
  have hother : ∀ k, k ≠ m.blk → (w.heap.setIfInBounds m.blk o)[k]? = w.heap[k]? := fun k hk => by
    rw [Array.getElem?_setIfInBounds_ne (Ne.symm hk)]
  have hapart : ∀ (k : Nat) (c : ABlk) (l2 : Loc), k ≠ i → σ.get k = some c → ρ k = some l2 → m.blk ≠ l2.blk := fun k c l2 hk e r => by
    rcases h.sep i k _ _ _ _ (Ne.symm hk) hi e hρ r with a | ⟨a, _⟩
    · exact a
    · rw [hnc] at a; cases a
  exact {
    below := h.below.trans ⟨rfl, rfl, rfl, by simp, fun k hk => hother k (by omega)⟩
    dom := fun j hj => ⟨(h.dom j hj).1, by
      rw [AState.set_get]
      have : j ≠ i := by
        intro e; subst e
        rw [(h.dom j hj).2] at hi; cases hi
      rw [if_neg this]; exact (h.dom j hj).2⟩
    lt := fun j l e => by simpa using h.lt j l e
    blk := fun j c l e1 e2 => by
      rw [AState.set_get] at e1
      by_cases hj : j = i
      · subst hj
        rw [if_pos rfl] at e1; cases e1
        rw [hρ] at e2; cases e2
        exact hb
      · rw [if_neg hj] at e1
        exact (h.blk j c l e1 e2).keep (RLe.refl _) (hother _ (Ne.symm (hapart j c l hj e1 e2)))
    sep := fun j k b1 c l1 l2 hjk e1 e2 r1 r2 => by
      rw [AState.set_get] at e1 e2
      by_cases hj : j = i
      · subst hj
        rw [if_neg (Ne.symm hjk)] at e2
        rw [hρ] at r1; cases r1
        exact .inl (hapart k c l2 (Ne.symm hjk) e2 r2)
      · rw [if_neg hj] at e1
        by_cases hk : k = i
        · subst hk
          rw [hρ] at r2; cases r2
          exact .inl (Ne.symm (hapart j b1 l1 hj e1 r1))
        · rw [if_neg hk] at e2
          exact h.sep j k b1 c l1 l2 hjk e1 e2 r1 r2
    defs := fun d hdm => by
      obtain ⟨h1, h2⟩ := h.defs d hdm
      refine ⟨h1, ?_⟩
      show (w.heap.setIfInBounds m.blk o)[d]? = _
      rw [hother d (by intro e; subst e; exact hd h2)]; exact h2
    nodup := h.nodup
    loops := fun d hdm => by
      obtain ⟨h1, r, h2⟩ := h.loops d hdm
      refine ⟨h1, ?_⟩
      show ∃ r, (w.heap.setIfInBounds m.blk o)[d]? = _
      by_cases e : d = m.blk
      · subst e
        obtain ⟨r', hr'⟩ := hl r h2
        exact ⟨r', by rw [Array.getElem?_setIfInBounds_self_of_lt (lt_of_some h2), hr']⟩
      · exact ⟨r, by rw [hother d e]; exact h2⟩
    glob := h.glob }
end Go.Am
namespace Go.Am
open Go.RowKit
variable {R : Code → AC → Prop} {P : Program} {w0 w w' : World} {ρ ρ' : RMap} {D : List Nat × List Nat} {σ : AState}
theorem gather {ρ : RMap} : ∀ (l : List AV) (f : Nat → Option Value), (∀ (k : Nat) (x : AV), l[k]? = some x → ∃ y, f k = some y ∧ VRel ρ x y) →
    ∃ cs : List Value, VRelL ρ l cs ∧ ∀ (j : Nat) (v : Value), cs[j]? = some v → f j = some v
  | [], _, _ => ⟨[], .mk_nil, fun j v e => by simp at e⟩
  | x :: r, f, h => by
    obtain ⟨y, hy, hv⟩ := h 0 x rfl
    obtain ⟨cs, hc, hf⟩ := gather r (fun k => f (k + 1)) (fun k x e => h (k + 1) x (by simpa using e))
    refine ⟨y :: cs, .mk_cons hv hc, fun j v e => ?_⟩
    cases j with
    | zero => simp only [List.getElem?_cons_zero, Option.some.injEq] at e; subst e; exact hy
    | succ j => simp only [List.getElem?_cons_succ] at e; exact hf j v e
theorem BRel.read {B o n : Nat} {l : List AV} {wr : Bool} {m : Loc} (h : BRel R B ρ w (.cells l wr) m) (hn : o + n ≤ l.length) :
    ∃ cs : List Value, cs.length = n ∧ VRelL ρ ((l.drop o).take n) cs ∧ ∀ (j : Nat) (v : Value), cs[j]? = some v → w.cell? ⟨m.blk, m.base + o + j, none⟩ = some v := by
  obtain ⟨cs, hc, hf⟩ := gather (ρ := ρ) ((l.drop o).take n) (fun k => w.cell? ⟨m.blk, m.base + o + k, none⟩) (fun k x e => by
    rw [List.getElem?_take] at e
    split at e
    · rw [List.getElem?_drop] at e
      have := h.2.1 _ _ e
      rwa [← Nat.add_assoc] at this
    · cases e)
  refine ⟨cs, ?_, hc, hf⟩
  rw [← hc.length]; simp; omega
theorem run_loadAt {a : Addr} (hs : a.spot = none) {cs : List Value} (h : ∀ (j : Nat) (v : Value), cs[j]? = some v → w.cell? ⟨a.block, a.off + j, none⟩ = some v) :
    (loadCells a cs.length).run P w = .ok cs.toArray w := by
  refine run_loadCells_list w a cs fun j v e => ?_
  obtain ⟨b, o, s⟩ := a
  subst hs
  rw [Addr.add_lit]; exact h j v e
theorem setCell_heap_ne {a : Addr} {v : Value} {k : Nat} (h : k ≠ a.block) : (w.setCell a v).heap[k]? = w.heap[k]? := Below.heap_setCell _ _ _ _ h
theorem setCell_cells {a : Addr} {v : Value} {c : Array Value} {t : TypeId} {f : Nat × Nat} (h : w.heap[a.block]? = some (.cells c t f)) :
    ∃ c', (w.setCell a v).heap[a.block]? = some (.cells c' t f) := by
  simp only [World.setCell, Array.getElem?_modify, if_pos]
  rw [h]
  exact ⟨_, rfl⟩
theorem run_storeCells (blk off : Nat) : ∀ (vs : List Value) (i : Nat) (w : World), (∃ c t f, w.heap[blk]? = some (.cells c t f)) →
    (∀ k, k < vs.length → (∃ y, w.cell? ⟨blk, off + i + k, none⟩ = some y) ∧ w.frozen? ⟨blk, off + i + k, none⟩ = false) → (∀ v ∈ vs, v.oneCell = true) →
    ∃ w', (storeCells ⟨blk, off, none⟩ vs i).run P w = .ok () w' ∧ Wrote w w' blk (off + i) (off + i + vs.length) ∧ ∀ (k : Nat) (v : Value), vs[k]? = some v → w'.cell? ⟨blk, off + i + k, none⟩ = some v
  | [], i, w, hc, _, _ => by
    obtain ⟨c, t, f, hc⟩ := hc
    exact ⟨w, rfl, ⟨rfl, rfl, rfl, rfl, fun _ _ => rfl, fun _ _ => rfl, fun _ => rfl, c, t, f, c, f, hc, hc⟩, fun k v e => by simp at e⟩
  | v :: r, i, w, hc, h, ho => by
    obtain ⟨c, t, f, hc⟩ := hc
    obtain ⟨⟨y, hy⟩, hf⟩ := h 0 (by simp)
    have hone : v.oneCell' = true := by have := ho v (by simp); cases v <;> first | rfl | simp [Value.oneCell] at this
    simp only [Nat.add_zero] at hy hf
    have hst : (store ⟨blk, off + i, none⟩ v).run P w = .ok () (w.setCell ⟨blk, off + i, none⟩ v) := by
      rw [run_store P w _ v .plain hone]
      simp [hy, hf]
    obtain ⟨c', hc'⟩ := setCell_cells (w := w) (a := ⟨blk, off + i, none⟩) (v := v) hc
    have hoth : ∀ k, k ≠ off + i → (w.setCell ⟨blk, off + i, none⟩ v).cell? ⟨blk, k, none⟩ = w.cell? ⟨blk, k, none⟩ := fun k hk =>
      World.cell?_setCell_other _ _ _ _ (by intro e; apply hk; injection e with _ e2 _; exact e2.symm)
    obtain ⟨w', hrun, hW, hv⟩ := run_storeCells blk off r (i + 1) (w.setCell ⟨blk, off + i, none⟩ v) ⟨c', t, f, hc'⟩ (fun k hk => by
      have := h (k + 1) (by simpa using hk)
      rw [show off + (i + 1) + k = off + i + (k + 1) by omega]
      refine ⟨?_, by rw [World.frozen?_setCell]; exact this.2⟩
      rw [hoth _ (by omega)]; exact this.1) (fun u hu => ho u (by simp [hu]))
    obtain ⟨c1, t1, f1, c2, f2, e1, e2⟩ := hW.isCells
    refine ⟨w', ?_, ⟨hW.os.trans rfl, hW.tape.trans rfl, hW.output.trans rfl, hW.size.trans (by simp), fun k hk => ?_, fun k hk => ?_, fun a => ?_, c, t, f, c2, f2, hc, ?_⟩, fun k u e => ?_⟩
    · simp only [storeCells, Addr.add_lit, Sem.run_bind, hst, Result.andThen_ok]
      exact hrun
    · rw [hW.other k hk]; exact setCell_heap_ne hk
    · have hk' : k < off + (i + 1) ∨ off + (i + 1) + r.length ≤ k := by simp only [List.length_cons] at hk; omega
      rw [hW.cell k hk']; exact hoth k (by simp only [List.length_cons] at hk; omega)
    · rw [hW.frozen]; exact World.frozen?_setCell _ _ _ _
    · rw [e2]
      rw [hc'] at e1; injection e1 with e1; injection e1 with _ e3 _
      subst e3; rfl
    · cases k with
      | zero =>
        simp only [List.getElem?_cons_zero, Option.some.injEq] at e; subst e
        rw [Nat.add_zero, hW.cell (off + i) (by omega)]
        exact World.cell?_setCell_same _ _ _ hy
      | succ k =>
        simp only [List.getElem?_cons_succ] at e
        rw [show off + i + (k + 1) = off + (i + 1) + k by omega]; exact hv k u e
theorem isCells_of_cell {a : Addr} {y : Value} (h : w.cell? a = some y) : ∃ c t f, w.heap[a.block]? = some (.cells c t f) := by
  unfold World.cell? at h
  split at h
  · rename_i c t f e
    exact ⟨c, t, f, e⟩
  · cases h
theorem putL_length {l : List AV} {o : Nat} {vs : List AV} (h : o + vs.length ≤ l.length) : (putL l o vs).length = l.length := by
  simp [putL]; omega
theorem putL_get {l : List AV} {o : Nat} {vs : List AV} (h : o + vs.length ≤ l.length) (k : Nat) :
    (putL l o vs)[k]? = if o ≤ k ∧ k < o + vs.length then vs[k - o]? else l[k]? := by
  unfold putL
  by_cases h1 : k < o
  · rw [if_neg (by omega), List.append_assoc, List.getElem?_append_left (by simp; omega), List.getElem?_take, if_pos h1]
  · by_cases h2 : k < o + vs.length
    · rw [if_pos ⟨by omega, h2⟩, List.append_assoc, List.getElem?_append_right (by simp; omega), List.getElem?_append_left (by simp; omega)]
      congr 1; simp; omega
    · rw [if_neg (by omega), List.append_assoc, List.getElem?_append_right (by simp; omega), List.getElem?_append_right (by simp; omega), List.getElem?_drop]
      congr 1; simp; omega
theorem BRel.put {B o : Nat} {l vs : List AV} {m : Loc} {cs : List Value} (h : BRel R B ρ w (.cells l true) m) (hn : o + vs.length ≤ l.length) (hv : VRelL ρ vs cs)
    (hW : Wrote w w' m.blk (m.base + o) (m.base + o + vs.length)) (hc : ∀ (k : Nat) (v : Value), cs[k]? = some v → w'.cell? ⟨m.blk, m.base + o + k, none⟩ = some v) :
    BRel R B ρ w' (.cells (putL l o vs) true) m := by
  obtain ⟨h1, h2, h3⟩ := h
  have hcell : ∀ k, (∃ y, w.cell? ⟨m.blk, m.base + k, none⟩ = some y) → ∃ y, w'.cell? ⟨m.blk, m.base + k, none⟩ = some y := fun k hk => by
    by_cases hi : o ≤ k ∧ k < o + vs.length
    · have : k - o < cs.length := by rw [← hv.length]; omega
      have e := hc (k - o) _ (List.getElem?_eq_getElem this)
      rw [show m.base + o + (k - o) = m.base + k by omega] at e
      exact ⟨_, e⟩
    · rw [hW.cell _ (by omega)]; exact hk
  refine ⟨by rw [putL_length hn]; exact h1, fun k x e => ?_, fun e => ⟨(h3 e).1, fun k hk => ⟨hcell k ((h3 e).2 k hk).1, by rw [hW.frozen]; exact ((h3 e).2 k hk).2⟩⟩⟩
  rw [putL_get hn] at e
  split at e
  · rename_i hi
    obtain ⟨y, hy, hr⟩ := hv.get e
    refine ⟨y, ?_, hr⟩
    have := hc _ _ hy
    rwa [show m.base + o + (k - o) = m.base + k by omega] at this
  · rename_i hi
    rw [hW.cell _ (by omega)]
    exact h2 k x e
theorem SRel.store (h : SRel R P w0 ρ D σ w) {i o : Nat} {l vs : List AV} {m : Loc} {cs : List Value} (hi : σ.get i = some (.cells l true)) (hρ : ρ i = some m)
    (hn : o + vs.length ≤ l.length) (hv : VRelL ρ vs cs) (hone : allOne vs = true) :
    ∃ w', (storeCells ⟨m.blk, m.base + o, none⟩ cs).run P w = .ok () w' ∧ SRel R P w0 ρ D (σ.set i (.cells (putL l o vs) true)) w' := by
  have hb := h.blk i _ m hi hρ
  have hlen := hv.length
  cases hvs : vs with
  | nil =>
    subst hvs
    have hcs := VRelL.nil_iff.1 hv
    subst hcs
    refine ⟨w, rfl, ?_⟩
    have : putL l o [] = l := by simp [putL]
    rw [this]
    have hset : σ.set i (.cells l true) = σ := by
      unfold AState.set
      have : (fun j => if j = i then some (ABlk.cells l true) else σ.get j) = σ.get := by
        funext j; split
        · rename_i e; subst e; exact hi.symm
        · rfl
      rw [this]
    rw [hset]; exact h
  | cons x r =>
    have hpos : 0 < vs.length := by rw [hvs]; simp
    rw [← hvs]
    have hcells : ∃ c t f, w.heap[m.blk]? = some (.cells c t f) := by
      obtain ⟨y, hy⟩ := ((hb.2.2 rfl).2 o (by have := hb.1; omega)).1
      exact isCells_of_cell hy
    obtain ⟨w', hrun, hW, hc⟩ := run_storeCells (P := P) m.blk (m.base + o) cs 0 w hcells (fun k hk => by
      have := (hb.2.2 rfl).2 (o + k) (by have := hb.1; omega)
      rwa [← Nat.add_assoc] at this) (fun v hvm => by
      obtain ⟨k, hk, rfl⟩ := List.getElem_of_mem hvm
      have hk' : k < vs.length := by omega
      obtain ⟨y, hy, hr⟩ := hv.get (List.getElem?_eq_getElem hk')
      rw [List.getElem?_eq_getElem hk] at hy; cases hy
      exact hr.one (List.all_eq_true.1 hone _ (List.getElem_mem hk')))
    simp only [Nat.add_zero] at hW hc
    rw [← hlen] at hW
    exact ⟨w', hrun, h.write hi hρ hW (by omega) (by have := hb.1; omega) (hb.put hn hv hW hc)⟩
end Go.Am
namespace Go.Am
open Go.RowKit
variable {R : Code → AC → Prop} {P : Program} {w0 w w' : World} {ρ ρ' : RMap} {D : List Nat × List Nat} {σ : AState}
def valOf : Next → Option Value
  | .value v => some v
  | .skip => some undef
  | _ => none
def Does (R : Code → AC → Prop) (P : Program) (w0 : World) (ρ : RMap) (D : List Nat × List Nat) (σ : AState) (w : World) (s : Sem Next) (v : AV) (es : List Eff) : Prop :=
  ∃ ρ' cv w' nx, RX σ.next ρ ρ' ∧ s.run P w = .ok nx w' ∧ valOf nx = some cv ∧ VRel ρ' v cv ∧ SRel R P w0 ρ' D (σ.app es) w'
def EvRel (P : Program) (ρ : RMap) (ts : List AV) (ev : Operand → Value) : Prop := ∀ x X, resX P x = some X → VRel ρ (X.ev ts) (ev x)
theorem EvRel.mono {ts : List AV} {ev : Operand → Value} (h : EvRel P ρ ts ev) (k : RLe ρ ρ') : EvRel P ρ' ts ev := fun x X e => VRel.mono k _ _ (h x X e)
theorem absV1_rel {v : Value} {a : AV} (h : absV1 v = some a) : VRel ρ a v := by
  unfold absV1 at h
  split at h <;> first | (injection h with h; subst h; simp [VRel, SlRel]; done) | cases h
theorem absL_rel : ∀ {l : List Value} {a : List AV}, absL l = some a → VRelL ρ a l
  | [], a, h => by simp only [absL, Option.some.injEq] at h; subst h; exact .mk_nil
  | v :: r, a, h => by
    simp only [absL] at h
    split at h
    · rename_i x l e1 e2
      injection h with h; subst h
      exact .mk_cons (absV1_rel e1) (absL_rel e2)
    · cases h
theorem absV_rel {v : Value} {a : AV} (h : absV v = some a) : VRel ρ a v := by
  unfold absV at h
  split at h
  · simp only [Option.map_eq_some_iff] at h
    obtain ⟨l, e, rfl⟩ := h
    exact VRel.agg (absL_rel e)
  · simp only [Option.map_eq_some_iff] at h
    obtain ⟨l, e, rfl⟩ := h
    exact VRel.tuple (absL_rel e)
  · exact absV1_rel h
theorem SRel.evRel (h : SRel R P w0 ρ D σ w) {ts : List AV} {tm : Array Value} (ht : TRel ρ ts tm) (ds : List Deferred) : EvRel P ρ ts ({ tmps := tm, defers := ds } : Act).eval := by
  intro x X e
  cases x with
  | tmp t => simp only [resX, Option.some.injEq] at e; subst e; exact ht.2 t
  | const v =>
    simp only [resX, Option.map_eq_some_iff] at e
    obtain ⟨a, e, rfl⟩ := e
    exact absV_rel e
  | global g =>
    simp only [resX] at e
    split at e
    · rename_i hg
      injection e with e; subst e
      obtain ⟨l, hl, hb, h0⟩ := h.glob g hg
      simp only [X.ev, Act.eval, VRel]
      exact ⟨l, hl, by rw [hb, h0]⟩
    · cases e
  | func f =>
    simp only [resX, Option.some.injEq] at e; subst e
    simp only [X.ev, Act.eval, VRel]
    exact ⟨#[], #[], rfl, by intro l; exact Fn.noConfusion, .mk_nil, .mk_nil⟩
theorem resXs_rel {ts : List AV} {ev : Operand → Value} (h : EvRel P ρ ts ev) : ∀ {l : List Operand} {a : List X}, resXs P l = some a → VRelL ρ (a.map (X.ev ts)) (l.map ev)
  | [], a, e => by simp only [resXs, Option.some.injEq] at e; subst e; exact .mk_nil
  | x :: r, a, e => by
    simp only [resXs] at e
    split at e
    · rename_i y l e1 e2
      injection e with e; subst e
      exact .mk_cons (h _ _ e1) (resXs_rel h e2)
    · cases e
theorem Does.pure (h : SRel R P w0 ρ D σ w) {s : Sem Next} {v : AV} {cv : Value} (hr : s.run P w = .ok (.value cv) w) (hv : VRel ρ v cv) : Does R P w0 ρ D σ w s v [] :=
  ⟨ρ, cv, w, .value cv, RX.refl _ _, hr, rfl, hv, h⟩
theorem wrapF_eq (k : IntKind) (n : Int) : wrapF k n = k.wrap n := by
  unfold wrapF
  split
  · rename_i m
    cases hm : Nat.blt m 9223372036854775808
    · rfl
    · have : m < 9223372036854775808 := by simpa [Nat.blt_eq] using hm
      simp only [cond_true]
      exact (IntWalk.i64_in _ ⟨by simp, by simp; omega⟩).symm
  · rename_i m
    cases hm : Nat.blt m 256
    · rfl
    · have : m < 256 := by simpa [Nat.blt_eq] using hm
      simp only [cond_true]
      exact (IntWalk.u8_in _ ⟨by simp, by simp; omega⟩).symm
  · rfl
theorem toList_data (x : ByteArray) : x.toList = x.data.toList := ByteArray.toList_eq x
theorem binA_ok {op : BinOp} {t : TypeId} {x y v : AV} {a b : Value} {ox oy : Operand} (hx : VRel ρ x a) (hy : VRel ρ y b) (h : binA op x y = some v) :
    ∃ cv, (do eqGuard op t ox oy a b; binOp op t a b : Sem Value).run P w = .ok cv w ∧ VRel ρ v cv := by
  unfold binA at h
  split at h
  · rename_i k p k' q
    simp only [VRel] at hx hy
    subst hx; subst hy
    have hg : eqGuard op t ox oy (.int k p) (.int k' q) = Pure.pure () := eqGuard_at_int ..
    rw [hg]
    simp only [Sem.run_bind, Sem.run_pure, Result.andThen_ok]
    cases op <;> simp only at h
    all_goals first
      | (split at h
         · rename_i hk
           first
             | (subst hk
                first
                  | (split at h
                     · cases h
                     · rename_i hz
                       injection h with h; subst h
                       refine ⟨_, ?_, VRel.int⟩
                       simp [binOp, Op.intDiv, hz, wrapF_eq])
                  | (injection h with h; subst h
                     refine ⟨_, ?_, by first | exact VRel.int | exact VRel.bool⟩
                     simp [binOp, Op.intArith, Op.intBits, Op.intCmp, wrapF_eq]))
             | (injection h with h; subst h
                refine ⟨_, ?_, VRel.int⟩
                have hn : ¬ q < 0 := by omega
                simp [binOp, Op.shift, hn, wrapF_eq])
         · cases h)
  · rename_i p q
    simp only [VRel] at hx hy
    obtain ⟨bs, rfl, rfl⟩ := hx
    obtain ⟨cs, rfl, rfl⟩ := hy
    have hg : eqGuard op t ox oy (.string bs) (.string cs) = Pure.pure () := eqGuard_at_string ..
    rw [hg]
    simp only [Sem.run_bind, Sem.run_pure, Result.andThen_ok]
    cases op <;> simp only at h
    all_goals first
      | cases h; done
      | (split at h
         · rename_i hk
           injection h with h; subst h
           refine ⟨.string (bs ++ cs), ?_, by simp [VRel]⟩
           have : ¬ ((bs.size + cs.size : Nat) : Int) > IntKind.i64.max := by
             simp only [Array.length_toList] at hk
             have h1 : bs.data.size = bs.size := rfl
             have h2 : cs.data.size = cs.size := rfl
             rw [IntKind.max_i64]; omega
           simp only [binOp, Op.stringOp, this, if_false, Sem.run_pure]
         · cases h)
      | (injection h with h; subst h
         refine ⟨_, ?_, VRel.bool⟩
         simp [binOp, Op.stringOp, toList_data, leU])
  · cases h
end Go.Am
namespace Go.Am
open Go.RowKit
variable {R : Code → AC → Prop} {P : Program} {w0 w w' : World} {ρ ρ' : RMap} {D : List Nat × List Nat} {σ : AState}
def All2 {α β : Type} (r : α → β → Prop) : List α → List β → Prop
  | [], l => l = []
  | x :: t, l => ∃ y u, l = y :: u ∧ r x y ∧ All2 r t u
theorem All2.nil {α β : Type} {r : α → β → Prop} : All2 r [] [] := rfl
theorem All2.cons {α β : Type} {r : α → β → Prop} {x : α} {y : β} {t : List α} {u : List β} (h : r x y) (k : All2 r t u) : All2 r (x :: t) (y :: u) := ⟨y, u, rfl, h, k⟩
theorem info_of_szOf {t : TypeId} {n : Nat} (h : szOf P t = some n) : ∃ i, P.info? t = some i ∧ i.size = n := by
  simpa [szOf] using h
theorem run_info {t : TypeId} {i : TypeInfo} (h : P.info? t = some i) : (typeInfo t).run P w = .ok i w := by
  simp [typeInfo, h]
theorem run_sizeOf_of {t : TypeId} {n : Nat} (h : szOf P t = some n) : (sizeOf t).run P w = .ok n w := by
  obtain ⟨i, hi, rfl⟩ := info_of_szOf h
  simp [sizeOf, run_info hi]
theorem ldKind_none {t : TypeId} (h : ldKind P t = some none) : (isAgg t).run P w = .ok false w := by
  unfold ldKind at h
  split at h
  · cases h
  · cases h
  · rename_i d i e1 _ h1 h2
    have : (underlying t).run P w = .ok d w := run_underlying h1 w
    simp only [isAgg, Sem.run_bind, this, Result.andThen_ok]
    rfl
  · cases h
theorem ldKind_some {t : TypeId} {n : Nat} (h : ldKind P t = some (some n)) : (isAgg t).run P w = .ok true w ∧ szOf P t = some n := by
  unfold ldKind at h
  split at h
  · rename_i fs i e1 e2
    have : (underlying t).run P w = .ok (.struct fs) w := run_underlying e1 w
    simp only [isAgg, Sem.run_bind, this, Result.andThen_ok, szOf, e2]
    exact ⟨rfl, by simpa using h⟩
  · rename_i l e i e1 e2
    have : (underlying t).run P w = .ok (.array l e) w := run_underlying e1 w
    simp only [isAgg, Sem.run_bind, this, Result.andThen_ok, szOf, e2]
    exact ⟨rfl, by simpa using h⟩
  · cases h
  · cases h
theorem run_part {t : TypeId} {k : Option Nat} {l : List AV} {c : Array Value} {off : Nat} {v : AV} (hk : ldKind P t = some k) (hl : VRelL ρ l c.toList) (h : partA l off k = some v) :
    ∃ cv, (part t c off).run P w = .ok cv w ∧ VRel ρ v cv := by
  cases k with
  | none =>
    simp only [partA] at h
    obtain ⟨y, hy, hv⟩ := hl.get h
    refine ⟨y, ?_, hv⟩
    have : c[off]? = some y := by simpa using hy
    simp [part, ldKind_none hk, this]
  | some n =>
    obtain ⟨h1, h2⟩ := ldKind_some (w := w) hk
    simp only [partA] at h
    split at h
    · injection h with h; subst h
      refine ⟨.agg (c.extract off (off + n)), ?_, VRel.agg ?_⟩
      · simp [part, h1, run_sizeOf_of h2]
      · rw [Array.toList_extract, List.extract_eq_take_drop, Nat.add_sub_cancel_left]
        exact (hl.drop off).take n
    · cases h
theorem fillA_ok {place : Nat → Option (Nat × Nat)} : ∀ {ps : List (Nat × Nat × AV)} {qs : List (Nat × Value)} {l l' : List AV} {c : Array Value}, VRelL ρ l c.toList →
    All2 (fun p q => place q.1 = some (p.1, p.2.1) ∧ VRel ρ p.2.2 q.2) ps qs → fillA l ps = some l' → ∃ c', Instr.fill place c qs = some c' ∧ VRelL ρ l' c'.toList
  | [], qs, l, l', c, hl, hp, h => by
    simp only [All2] at hp; subst hp
    simp only [fillA, Option.some.injEq] at h; subst h
    exact ⟨c, rfl, hl⟩
  | (off, size, v) :: r, qs, l, l', c, hl, hp, h => by
    obtain ⟨⟨i, u⟩, qs, rfl, h1, h2⟩ := hp
    · simp only at h1
      simp only [fillA] at h
      split at h
      · rename_i hc
        have hcells := h1.2.cells
        have hsz : u.cells.size = size := by rw [← hc.1, hcells.length]; simp
        have hlen : l.length = c.size := by rw [hl.length]; simp
        have hfold : ∀ (xs : List Value) (j : Nat) (cs : Array Value), off + j + xs.length ≤ cs.size → ((xs.zipIdx j).foldl (fun cs (p : Value × Nat) => cs.setIfInBounds (off + p.2) p.1) cs).toList = cs.toList.take (off + j) ++ xs ++ cs.toList.drop (off + j + xs.length) := by
          intro xs
          induction xs with
          | nil => intro j cs _; simp
          | cons x xs ih =>
            intro j cs hb
            simp only [List.length_cons] at hb
            simp only [List.zipIdx_cons, List.foldl_cons]
            rw [ih (j + 1) _ (by simp; omega)]
            simp only [Array.toList_setIfInBounds, List.length_cons]
            rw [List.take_set, List.drop_set_of_lt (by omega)]
            rw [show off + (j + 1) = off + j + 1 by omega, List.take_succ_eq_append_getElem (by simp; omega)]
            rw [List.set_append_right _ _ (by simp; omega)]
            simp only [List.length_take, Array.length_toList]
            rw [show off + j - min (off + j) cs.size = 0 by omega]
            simp [Nat.add_comm, Nat.add_left_comm]
        obtain ⟨c', hc', hr⟩ := fillA_ok (place := place) (c := u.cells.zipIdx.foldl (fun cs (p : Value × Nat) => cs.setIfInBounds (off + p.2) p.1) c) (by
          rw [← Array.foldl_toList, Array.toList_zipIdx, hfold _ 0 c (by simp; omega)]
          simp only [Nat.add_zero, Array.length_toList, hsz]
          exact ((hl.take off).append hcells).append (hl.drop _)) h2 h
        refine ⟨c', ?_, hr⟩
        simp only [Instr.fill, h1.1]
        rw [if_neg (by simp [hsz]; omega)]
        exact hc'
      · cases h
theorem placesS_ok {ts : List AV} {ev : Operand → Value} (h : EvRel P ρ ts ev) {fs : Array Field} {pl : Array (Nat × Nat)}
    (hpl : ∀ (i : Nat) (f : Field) (n : Nat), fs[i]? = some f → szOf P f.type = some n → pl[i]? = some (f.offset, n)) : ∀ {l : List (Nat × Operand)} {ps : List (Nat × Nat × X)}, placesS P fs l = some ps →
    All2 (fun (p : Nat × Nat × AV) (q : Nat × Value) => pl[q.1]? = some (p.1, p.2.1) ∧ VRel ρ p.2.2 q.2) (ps.map fun p => (p.1, p.2.1, p.2.2.ev ts)) (l.map fun p => (p.1, ev p.2))
  | [], ps, e => by simp only [placesS, Option.some.injEq] at e; subst e; exact .nil
  | (i, x) :: r, ps, e => by
    simp only [placesS] at e
    split at e
    · rename_i o n y l e1 e2 e3
      injection e with e; subst e
      refine .cons ⟨?_, h _ _ e2⟩ (placesS_ok h hpl e3)
      rw [Option.bind_eq_some_iff] at e1
      obtain ⟨f, hf, hn⟩ := e1
      simp only [Option.map_eq_some_iff, Prod.mk.injEq] at hn
      obtain ⟨m, hm, rfl, rfl⟩ := hn
      exact hpl i f m hf hm
    · cases e
theorem placesA_ok {ts : List AV} {ev : Operand → Value} (h : EvRel P ρ ts ev) {sz : Nat} : ∀ {l : List (Nat × Operand)} {ps : List (Nat × Nat × X)}, placesA P sz l = some ps →
    All2 (fun (p : Nat × Nat × AV) (q : Nat × Value) => (some (q.1 * sz, sz) : Option (Nat × Nat)) = some (p.1, p.2.1) ∧ VRel ρ p.2.2 q.2) (ps.map fun p => (p.1, p.2.1, p.2.2.ev ts)) (l.map fun p => (p.1, ev p.2))
  | [], ps, e => by simp only [placesA, Option.some.injEq] at e; subst e; exact .nil
  | (i, x) :: r, ps, e => by
    simp only [placesA] at e
    split at e
    · rename_i y l e1 e2
      injection e with e; subst e
      exact .cons ⟨rfl, h _ _ e1⟩ (placesA_ok h e2)
    · cases e
end Go.Am
namespace Go.Am
open Go.RowKit
variable {R : Code → AC → Prop} {P : Program} {w0 w w' : World} {ρ ρ' : RMap} {D : List Nat × List Nat} {σ : AState} {ts : List AV} {ev : Operand → Value} {v : AV} {es : List Eff}
def OpOk (R : Code → AC → Prop) (P : Program) (o : Op) (ao : AOp) : Prop :=
  ∀ (w0 w : World) (ρ : RMap) (D : List Nat × List Nat) (σ : AState) (ts : List AV) (ev : Operand → Value) (v : AV) (es : List Eff) (od : Option Tmp) (ty : TypeId) (pos : String) (af : Array Edge) (gd : Option (Nat × Bool)),
    SRel R P w0 ρ D σ w → EvRel P ρ ts ev → opA σ.get σ.next ts ao = some (v, es) → Does R P w0 ρ D σ w (execOp ev ⟨od, o, ty, pos, af, gd⟩) v es
theorem ok_mv {x : Operand} {X' : X} (hx : resX P x = some X') : OpOk R P (.move x) (.mv X') := by
  intro w0 w ρ D σ ts ev v es od ty pos af gd h he hv
  simp only [opA, Option.some.injEq, Prod.mk.injEq] at hv
  obtain ⟨rfl, rfl⟩ := hv
  exact .pure h rfl (he _ _ hx)
theorem ok_assign {x : Operand} {X' : X} (hx : resX P x = some X') : OpOk R P (.assign x) (.mv X') := by
  intro w0 w ρ D σ ts ev v es od ty pos af gd h he hv
  simp only [opA, Option.some.injEq, Prod.mk.injEq] at hv
  obtain ⟨rfl, rfl⟩ := hv
  exact .pure h rfl (he _ _ hx)
theorem ok_pick {c a b : Operand} {c' a' b' : X} (hc : resX P c = some c') (ha : resX P a = some a') (hb : resX P b = some b') : OpOk R P (.pick c a b) (.pick c' a' b') := by
  intro w0 w ρ D σ ts ev v es od ty pos af gd h he hv
  simp only [opA] at hv
  split at hv
  · rename_i t e
    have hcv := he _ _ hc
    rw [e] at hcv
    simp only [VRel] at hcv
    injection hv with hv; injection hv with h1 h2; subst h1; subst h2
    refine .pure h (cv := if t then ev a else ev b) ?_ ?_
    · simp only [execOp, hcv, asBool, Sem.run_bind, Sem.run_pure, Result.andThen_ok]
    · cases t
      · exact he _ _ hb
      · exact he _ _ ha
  · cases hv
theorem ok_un {op : UnOp} {t : TypeId} {x : Operand} {X' : X} (hx : resX P x = some X') : OpOk R P (.unOp op t x) (.un op X') := by
  intro w0 w ρ D σ ts ev v es od ty pos af gd h he hv
  simp only [opA] at hv
  have hr := he _ _ hx
  split at hv
  · rename_i b e
    rw [e] at hr; simp only [VRel] at hr
    injection hv with hv; injection hv with h1 h2; subst h1; subst h2
    exact .pure h (by simp [execOp, hr, Op.unary]) VRel.bool
  · rename_i k n e
    rw [e] at hr; simp only [VRel] at hr
    injection hv with hv; injection hv with h1 h2; subst h1; subst h2
    exact .pure h (cv := .int k (k.wrap (0 - n))) (by simp [execOp, hr, Op.unary, Op.intArith]) (by rw [wrapF_eq]; exact VRel.int)
  · rename_i k n e
    rw [e] at hr; simp only [VRel] at hr
    injection hv with hv; injection hv with h1 h2; subst h1; subst h2
    exact .pure h (by simp [execOp, hr, Op.unary, Op.intBits]) VRel.int
  · cases hv
theorem ok_bin {op : BinOp} {t yt : TypeId} {x y : Operand} {a b : X} (hx : resX P x = some a) (hy : resX P y = some b) : OpOk R P (.binOp op t x y yt) (.bin op a b) := by
  intro w0 w ρ D σ ts ev v es od ty pos af gd h he hv
  simp only [opA] at hv
  split at hv
  · rename_i u e
    injection hv with hv; injection hv with h1 h2; subst h1; subst h2
    obtain ⟨cv, hr, hcv⟩ := binA_ok (P := P) (w := w) (t := t) (ox := x) (oy := y) (he _ _ hx) (he _ _ hy) e
    refine .pure h (cv := cv) ?_ hcv
    simp only [execOp, Sem.run_bind] at hr ⊢
    simp only [hr, Result.andThen_ok, Sem.run_pure]
  · cases hv
theorem kEq_ok {t : TypeId} {k : BK} {x y : AV} {a b : Value} {r : Bool} {d : Nat} (ht : basicType P t = some k) (hx : VRel ρ x a) (hy : VRel ρ y b) (h : kEq k x y = some r) :
    (Op.equalIn (d + 1) t a b).run P w = .ok r w := by
  unfold basicType at ht
  unfold kEq at h
  split at h
  · simp only [VRel] at hx hy; subst hx; subst hy
    split at h
    · rename_i hk; subst hk
      injection h with h; subst h
      split at ht
      · rename_i k' e
        simp [Op.equalIn, run_underlying e]
      all_goals cases ht
    · cases h
  · simp only [VRel] at hx hy
    obtain ⟨bs, rfl, rfl⟩ := hx; obtain ⟨cs, rfl, rfl⟩ := hy
    injection h with h; subst h
    split at ht
    · cases ht
    · rename_i e
      rw [run_equalIn_string _ _ _ _ _ e, toList_data, toList_data]
    all_goals cases ht
  · simp only [VRel] at hx hy; subst hx; subst hy
    injection h with h; subst h
    split at ht
    · cases ht
    · cases ht
    · rename_i e
      simp [Op.equalIn, run_underlying e]
    · cases ht
  · cases h
theorem structEq_ok {xs ys : List AV} {cx cy : Array Value} {d : Nat} (hx : VRelL ρ xs cx.toList) (hy : VRelL ρ ys cy.toList) : ∀ {fs : List Field} {ks : List (Nat × Option BK)} {r : Bool},
    eqFields P fs = some ks → structEq xs ys ks = some r → (Op.eqFields (d + 1) cx cy fs).run P w = .ok r w
  | [], ks, r, he, h => by
    simp only [eqFields, Option.some.injEq] at he; subst he
    simp only [structEq, Option.some.injEq] at h; subst h
    rfl
  | f :: fs, ks, r, he, h => by
    simp only [eqFields] at he
    split at he
    · rename_i k l e1 e2 e3
      injection he with he; subst he
      by_cases hn : f.name = "_"
      · simp only [hn, if_true, structEq] at h
        simp only [Op.eqFields, hn, ne_eq, not_true, if_false]
        exact structEq_ok hx hy e3 h
      · simp only [hn, if_false, structEq] at h
        split at h
        · rename_i a b ea eb
          obtain ⟨ca, hca, ra⟩ := run_part (w := w) (off := f.offset) (v := a) e2 hx (by simpa [partA] using ea)
          obtain ⟨cb, hcb, rb⟩ := run_part (w := w) (off := f.offset) (v := b) e2 hy (by simpa [partA] using eb)
          simp only [Op.eqFields, hn, ne_eq, not_false_eq_true, if_true, Sem.run_bind, hca, hcb, Result.andThen_ok]
          split at h
          · rename_i hk
            rw [kEq_ok (P := P) (w := w) (d := d) e1 ra rb hk]
            simp only [Result.andThen_ok, Bool.not_true, Bool.false_eq_true, if_false]
            exact structEq_ok hx hy e3 h
          · rename_i hk
            rw [kEq_ok (P := P) (w := w) (d := d) e1 ra rb hk]
            injection h with h; subst h
            simp
          · cases h
        · cases h
    · cases he
theorem run_equal {t : TypeId} {a b : Value} {r : Bool} (h : ∀ d, 0 < d → (Op.equalIn (d + 1) t a b).run P w = .ok r w) : (Op.equal t a b).run P w = .ok r w := h 9999 (by omega)
structure EqRun (P : Program) (w : World) (t : TypeId) (a b : Value) (r : Bool) : Prop where
  run : ∀ d, 0 < d → (Op.equalIn (d + 1) t a b).run P w = .ok r w
  eql : binOp .eql t a b = (do Pure.pure (.bool (← Op.equal t a b)))
  neq : binOp .neq t a b = (do Pure.pure (.bool (!(← Op.equal t a b))))
  guard : ∀ op ox oy, (eqGuard op t ox oy a b).run P w = .ok () w
theorem nilEq_ptr {t : TypeId} {x y : AV} {a b : Value} {r : Bool} {e : TypeId} (he : P.underlying t = some (.pointer e)) (hx : VRel ρ x a) (hy : VRel ρ y b) (h : nilEq .ptr x y = some r) : EqRun P w t a b r := by
  cases x with
  | ptr o => cases y with
    | ptr o' => cases o with
      | none =>
        simp only [nilEq, Option.some.injEq] at h; subst h
        simp only [VRel] at hx; subst hx
        cases o' with
        | none => simp only [VRel] at hy; subst hy; exact ⟨fun d _ => by simp [Op.equalIn, run_underlying he], rfl, rfl, fun _ _ _ => by rw [eqGuard_at_pointer]; rfl⟩
        | some q => simp only [VRel] at hy; obtain ⟨_, _, rfl⟩ := hy; exact ⟨fun d _ => by simp [Op.equalIn, run_underlying he], rfl, rfl, fun _ _ _ => by rw [eqGuard_at_pointer]; rfl⟩
      | some p => cases o' with
        | none =>
          simp only [nilEq, Option.some.injEq] at h; subst h
          simp only [VRel] at hx hy; subst hy; obtain ⟨_, _, rfl⟩ := hx
          exact ⟨fun d _ => by simp [Op.equalIn, run_underlying he], rfl, rfl, fun _ _ _ => by rw [eqGuard_at_pointer]; rfl⟩
        | some q => simp [nilEq] at h
    | _ => cases o <;> simp [nilEq] at h
  | _ => simp [nilEq] at h
theorem nilEq_slice {t : TypeId} {x y : AV} {a b : Value} {r : Bool} {e : TypeId} (he : P.underlying t = some (.slice e)) (hx : VRel ρ x a) (hy : VRel ρ y b) (h : nilEq .slice x y = some r) : EqRun P w t a b r := by
  cases x with
  | slice o l c s => cases y with
    | slice o' l' c' s' => cases o with
      | none =>
        simp only [nilEq, Option.some.injEq] at h; subst h
        simp only [VRel, SlRel] at hx; obtain ⟨_, _, rfl⟩ := hx
        cases o' with
        | none => simp only [VRel, SlRel] at hy; obtain ⟨_, _, rfl⟩ := hy; exact ⟨fun d _ => by simp [Op.equalIn, run_underlying he], rfl, rfl, fun _ _ _ => by rw [eqGuard_at_slice]; rfl⟩
        | some q => simp only [VRel, SlRel] at hy; obtain ⟨_, _, _, _, rfl, _⟩ := hy; exact ⟨fun d _ => by simp [Op.equalIn, run_underlying he], rfl, rfl, fun _ _ _ => by rw [eqGuard_at_slice]; rfl⟩
      | some p => cases o' with
        | none =>
          simp only [nilEq, Option.some.injEq] at h; subst h
          simp only [VRel, SlRel] at hx hy; obtain ⟨_, _, rfl⟩ := hy; obtain ⟨_, _, _, _, rfl, _⟩ := hx
          exact ⟨fun d _ => by simp [Op.equalIn, run_underlying he], rfl, rfl, fun _ _ _ => by rw [eqGuard_at_slice]; rfl⟩
        | some q => simp [nilEq] at h
    | _ => cases o <;> simp [nilEq] at h
  | _ => simp [nilEq] at h
theorem nilEq_map {t : TypeId} {x y : AV} {a b : Value} {r : Bool} {e e' : TypeId} (he : P.underlying t = some (.map e e')) (hx : VRel ρ x a) (hy : VRel ρ y b) (h : nilEq .map x y = some r) : EqRun P w t a b r := by
  cases x with
  | map o => cases y with
    | map o' => cases o with
      | none =>
        simp only [nilEq, Option.some.injEq] at h; subst h
        simp only [VRel] at hx; subst hx
        cases o' with
        | none => simp only [VRel] at hy; subst hy; exact ⟨fun d _ => by simp [Op.equalIn, run_underlying he], rfl, rfl, fun _ _ _ => by rw [eqGuard_at_map]; rfl⟩
        | some q => simp only [VRel] at hy; obtain ⟨_, _, rfl⟩ := hy; exact ⟨fun d _ => by simp [Op.equalIn, run_underlying he], rfl, rfl, fun _ _ _ => by rw [eqGuard_at_map]; rfl⟩
      | some p => cases o' with
        | none =>
          simp only [nilEq, Option.some.injEq] at h; subst h
          simp only [VRel] at hx hy; subst hy; obtain ⟨_, _, rfl⟩ := hx
          exact ⟨fun d _ => by simp [Op.equalIn, run_underlying he], rfl, rfl, fun _ _ _ => by rw [eqGuard_at_map]; rfl⟩
        | some q => simp [nilEq] at h
    | _ => cases o <;> simp [nilEq] at h
  | _ => simp [nilEq] at h
theorem nilEq_func {t : TypeId} {x y : AV} {a b : Value} {r : Bool} {p q : Array TypeId} {v : Bool} (he : P.underlying t = some (.func p q v)) (hx : VRel ρ x a) (hy : VRel ρ y b) (h : nilEq .func x y = some r) : EqRun P w t a b r := by
  cases x with
  | nilFunc =>
    simp only [VRel] at hx; subst hx
    cases y with
    | nilFunc => simp only [nilEq, Option.some.injEq] at h; subst h; simp only [VRel] at hy; subst hy; exact ⟨fun d _ => by simp [Op.equalIn, run_underlying he], rfl, rfl, fun _ _ _ => by rw [eqGuard_at_nilFunc]; rfl⟩
    | func f a b => simp only [nilEq, Option.some.injEq] at h; subst h; simp only [VRel] at hy; obtain ⟨_, _, rfl, _⟩ := hy; exact ⟨fun d _ => by simp [Op.equalIn, run_underlying he], rfl, rfl, fun _ _ _ => by rw [eqGuard_at_nilFunc]; rfl⟩
    | yieldf i => simp only [nilEq, Option.some.injEq] at h; subst h; simp only [VRel] at hy; obtain ⟨_, _, rfl⟩ := hy; exact ⟨fun d _ => by simp [Op.equalIn, run_underlying he], rfl, rfl, fun _ _ _ => by rw [eqGuard_at_nilFunc]; rfl⟩
    | _ => simp [nilEq] at h
  | func f a b =>
    cases y with
    | nilFunc => simp only [nilEq, Option.some.injEq] at h; subst h; simp only [VRel] at hx hy; subst hy; obtain ⟨_, _, rfl, _⟩ := hx; exact ⟨fun d _ => by simp [Op.equalIn, run_underlying he], rfl, rfl, fun _ _ _ => by rw [eqGuard_at_func]; rfl⟩
    | _ => simp [nilEq] at h
  | yieldf i =>
    cases y with
    | nilFunc => simp only [nilEq, Option.some.injEq] at h; subst h; simp only [VRel] at hx hy; subst hy; obtain ⟨_, _, rfl⟩ := hx; exact ⟨fun d _ => by simp [Op.equalIn, run_underlying he], rfl, rfl, fun _ _ _ => by rw [eqGuard_at_func]; rfl⟩
    | _ => simp [nilEq] at h
  | _ => simp [nilEq] at h
theorem nilEq_iface {t : TypeId} {x y : AV} {a b : Value} {r : Bool} {m : Array (String × TypeId)} (he : P.underlying t = some (.interface m)) (hx : VRel ρ x a) (hy : VRel ρ y b) (h : nilEq .iface x y = some r) : EqRun P w t a b r := by
  cases x with
  | nilIface =>
    simp only [VRel] at hx; subst hx
    cases y with
    | iface f a => simp only [nilEq, Option.some.injEq] at h; subst h; simp only [VRel] at hy; obtain ⟨_, rfl, _⟩ := hy; exact ⟨fun d _ => by simp [Op.equalIn, run_underlying he], rfl, rfl, fun _ _ _ => by rw [eqGuard_nil_iface]; rfl⟩
    | _ => simp [nilEq] at h
  | iface f a =>
    cases y with
    | nilIface => simp only [nilEq, Option.some.injEq] at h; subst h; simp only [VRel] at hx hy; subst hy; obtain ⟨_, rfl, _⟩ := hx; exact ⟨fun d _ => by simp [Op.equalIn, run_underlying he], rfl, rfl, fun _ _ _ => by rw [eqGuard_at_iface]; rfl⟩
    | _ => simp [nilEq] at h
  | _ => simp [nilEq] at h
theorem eqA_ok {t : TypeId} {k : EqK} {x y : AV} {a b : Value} {r : Bool} (ht : eqKind P t = some k) (hx : VRel ρ x a) (hy : VRel ρ y b) (h : eqA k x y = some r) : EqRun P w t a b r := by
  unfold eqKind at ht
  split at ht
  · rename_i e
    injection ht with ht; subst ht
    have h' := h
    simp only [eqA, kEq] at h
    split at h
    · rename_i e; cases e
    · rename_i e; cases e
    · have hr : ∀ d, 0 < d → (Op.equalIn (d + 1) t a b).run P w = .ok r w := fun d _ => kEq_ok (k := .bool) (by simp [basicType, e]) hx hy h'
      simp only [VRel] at hx hy; subst hx; subst hy
      exact ⟨hr, rfl, rfl, fun _ _ _ => by rw [eqGuard_at_bool]; rfl⟩
    · cases h
  · rename_i e he
    injection ht with ht; subst ht
    exact nilEq_ptr he hx hy h
  · rename_i e he
    injection ht with ht; subst ht
    exact nilEq_slice he hx hy h
  · rename_i e1 e2 he
    injection ht with ht; subst ht
    exact nilEq_map he hx hy h
  · rename_i e1 e2 e3 he
    injection ht with ht; subst ht
    exact nilEq_func he hx hy h
  · rename_i e1 he
    injection ht with ht; subst ht
    exact nilEq_iface he hx hy h
  · rename_i fs he
    split at ht
    · cases ht
    · rename_i hc
      simp only [Option.map_eq_some_iff] at ht
      obtain ⟨ks, hks, rfl⟩ := ht
      simp only [eqA] at h
      split at h
      · simp only [VRel] at hx hy
        obtain ⟨cx, rfl, rx⟩ := hx
        obtain ⟨cy, rfl, ry⟩ := hy
        simp only [Bool.or_eq_true, not_or, Bool.not_eq_true] at hc
        have hf : P.fieldsOf t = fs := by simp [Program.fieldsOf, he]
        refine ⟨fun d hd => ?_, rfl, rfl, fun _ _ _ => run_eqGuard_agg _ _ _ _ _ _ _ hc.2⟩
        rw [run_equalIn_struct w _ t cx cy (by rw [hf]; exact he) hc.1, hf]
        cases d with
        | zero => omega
        | succ d => exact structEq_ok rx ry hks h
      · cases h
  · cases ht
theorem ok_eq {op : BinOp} {neg : Bool} {k : EqK} {t yt : TypeId} {x y : Operand} {a b : X} (hx : resX P x = some a) (hy : resX P y = some b) (hk : eqKind P t = some k)
    (hop : op = if neg then .neq else .eql) : OpOk R P (.binOp op t x y yt) (.eq k neg a b) := by
  intro w0 w ρ D σ ts ev v es od ty pos af gd h he hv
  simp only [opA] at hv
  split at hv
  · rename_i r e
    injection hv with hv; injection hv with h1 h2; subst h1; subst h2
    have hr := eqA_ok (P := P) (w := w) hk (he _ _ hx) (he _ _ hy) e
    refine .pure h (cv := .bool (if neg then !r else r)) ?_ VRel.bool
    simp only [execOp, Sem.run_bind, hr.guard, Result.andThen_ok]
    cases neg
    · simp only [Bool.false_eq_true, if_false] at hop; subst hop
      rw [hr.eql]
      simp only [Sem.run_bind, run_equal hr.run, Result.andThen_ok, Sem.run_pure, Bool.false_eq_true, if_false]
    · simp only [if_true] at hop; subst hop
      rw [hr.neq]
      simp only [Sem.run_bind, run_equal hr.run, Result.andThen_ok, Sem.run_pure, if_true]
  · cases hv
theorem ok_eqC {op : BinOp} {neg : Bool} {t yt : TypeId} {x y : Operand} {a b : X} (hx : resX P x = some a) (hy : resX P y = some b) (hk : eqKind P t = some (.nilOf .iface)) (hc : (isConst x || isConst y) = true)
    (hop : op = if neg then .neq else .eql) : OpOk R P (.binOp op t x y yt) (.eq (.nilOf .ifaceC) neg a b) := by
  intro w0 w ρ D σ ts ev v es od ty pos af gd h he hv
  by_cases hn : a.ev ts = .nilIface ∧ b.ev ts = .nilIface
  · obtain ⟨n1, n2⟩ := hn
    have h1 := he _ _ hx
    have h2 := he _ _ hy
    rw [n1] at h1; rw [n2] at h2
    simp only [VRel] at h1 h2
    simp only [opA, eqA, n1, n2, nilEq] at hv
    injection hv with hv; injection hv with q1 q2; subst q1; subst q2
    obtain ⟨m, hm⟩ : ∃ m, P.underlying t = some (.interface m) := by
      unfold eqKind at hk
      split at hk <;> first | exact ⟨_, by assumption⟩ | (injection hk with hk; cases hk) | cases hk | skip
      split at hk
      · cases hk
      · simp only [Option.map_eq_some_iff] at hk
        obtain ⟨_, _, hk⟩ := hk
        cases hk
    have hr : ∀ d, 0 < d → (Op.equalIn (d + 1) t .nilIface .nilIface).run P w = .ok true w := fun d _ => by simp [Op.equalIn, run_underlying hm]
    have hg : ∀ o : BinOp, (eqGuard o t x y .nilIface .nilIface).run P w = .ok () w := fun o => by
      cases x with
      | const c => rw [eqGuard_nil_constL]; rfl
      | _ =>
        cases y with
        | const c => rw [eqGuard_nil_constR]; rfl
        | _ => simp [isConst] at hc
    refine .pure h (cv := .bool (if neg then !true else true)) ?_ VRel.bool
    simp only [execOp, Sem.run_bind, h1, h2, hg, Result.andThen_ok]
    cases neg
    · simp only [Bool.false_eq_true, if_false] at hop; subst hop
      have e : binOp .eql t .nilIface .nilIface = (do Pure.pure (.bool (← Op.equal t .nilIface .nilIface))) := rfl
      rw [e]
      simp only [Sem.run_bind, run_equal hr, Result.andThen_ok, Sem.run_pure, Bool.false_eq_true, if_false]
    · simp only [if_true] at hop; subst hop
      have e : binOp .neq t .nilIface .nilIface = (do Pure.pure (.bool (!(← Op.equal t .nilIface .nilIface)))) := rfl
      rw [e]
      simp only [Sem.run_bind, run_equal hr, Result.andThen_ok, Sem.run_pure, if_true]
  · refine ok_eq hx hy hk hop w0 w ρ D σ ts ev v es od ty pos af gd h he ?_
    simp only [opA, eqA] at hv ⊢
    rw [← hv]
    have : nilEq .iface (a.ev ts) (b.ev ts) = nilEq .ifaceC (a.ev ts) (b.ev ts) := by
      cases h1 : a.ev ts <;> cases h2 : b.ev ts <;> try rfl
      exact absurd ⟨h1, h2⟩ hn
    rw [this]
theorem ok_eqL {op : BinOp} {neg : Bool} {k : EqK} {t yt : TypeId} {x y : Operand} {a b : X} (hx : resX P x = some a) (hy : resX P y = some b) (hk : eqKind P t = some k)
    (hop : op = if neg then .neq else .eql) : OpOk R P (.binOp op t x y yt) (.eq (litK x y k) neg a b) := by
  unfold litK
  split
  · split
    · rename_i hc; exact ok_eqC hx hy hk hc hop
    · exact ok_eq hx hy hk hop
  · exact ok_eq hx hy hk hop
end Go.Am
namespace Go.Am
open Go.RowKit
variable {R : Code → AC → Prop} {P : Program} {w0 w w' : World} {ρ ρ' : RMap} {D : List Nat × List Nat} {σ : AState} {ts : List AV} {ev : Operand → Value} {v : AV} {es : List Eff}
theorem add_none (b o n : Nat) : Addr.add ⟨b, o, none⟩ n = ⟨b, o + n, none⟩ := Addr.add_lit b o n
theorem run_mapM_list {α β : Type} (f : α → Sem β) (g : α → Option β) : ∀ (l : List α), (∀ a ∈ l, ∃ b, g a = some b ∧ (f a).run P w = .ok b w) →
    ∃ r : List β, (l.mapM f).run P w = .ok r w ∧ ∀ (i : Nat) (a : α), l[i]? = some a → ∃ b, g a = some b ∧ r[i]? = some b
  | [], _ => ⟨[], rfl, fun i a e => by simp at e⟩
  | a :: l, h => by
    obtain ⟨b, hb, hr⟩ := h a (by simp)
    obtain ⟨r, hrr, hg⟩ := run_mapM_list f g l fun x hx => h x (by simp [hx])
    refine ⟨b :: r, ?_, fun i x e => ?_⟩
    · simp [List.mapM_cons, hr, hrr]
    · cases i with
      | zero => simp only [List.getElem?_cons_zero, Option.some.injEq] at e; subst e; exact ⟨b, hb, rfl⟩
      | succ i => simp only [List.getElem?_cons_succ] at e ⊢; exact hg i x e
theorem ok_build {t : TypeId} {parts : Array (Nat × Operand)} {ao : AOp} (hres : resBuild P t parts = some ao) : OpOk R P (.build t parts) ao := by
  intro w0 w ρ D σ ts ev v es od ty pos af gd h he hv
  unfold resBuild at hres
  split at hres
  · rename_i z fs hz hu
    split at hres
    case isFalse => cases hres
    rename_i hall
    split at hres
    · rename_i zc ps hzc hps
      injection hres with hres; subst hres
      simp only [opA] at hv
      split at hv
      · rename_i l hl
        injection hv with hv; injection hv with h1 h2; subst h1; subst h2
        rw [Option.bind_eq_some_iff] at hz
        obtain ⟨i, hi, hiz⟩ := hz
        have hzero : (zeroValue t).run P w = .ok z w := by simp [zeroValue, run_info hi, hiz]
        obtain ⟨pl, hpl, hplget⟩ : ∃ pl : Array (Nat × Nat), (fs.mapM fun f => do Pure.pure (f.offset, ← sizeOf f.type) : Sem (Array (Nat × Nat))).run P w = .ok pl w ∧
            (∀ (i : Nat) (f : Field) (n : Nat), fs[i]? = some f → szOf P f.type = some n → pl[i]? = some (f.offset, n)) := by
          obtain ⟨r, hr, hg⟩ := run_mapM_list (P := P) (w := w) (fun f : Field => (do Pure.pure (f.offset, ← sizeOf f.type) : Sem (Nat × Nat))) (fun f => (szOf P f.type).map fun n => (f.offset, n)) fs.toList (fun f hf => by
            have := List.all_eq_true.1 hall f hf
            obtain ⟨n, hn⟩ := Option.isSome_iff_exists.1 this
            exact ⟨(f.offset, n), by simp [hn], by simp [run_sizeOf_of hn]⟩)
          refine ⟨r.toArray, ?_, fun i f n hf hn => ?_⟩
          · rw [Array.mapM_eq_mapM_toList]
            simp only [Sem.run_map, hr, Result.andThen_ok]
          · obtain ⟨b, hb, hri⟩ := hg i f (by simpa using hf)
            simp only [hn, Option.map_some, Option.some.injEq] at hb
            subst hb
            simpa using hri
        obtain ⟨c', hfill, hr⟩ := fillA_ok (place := fun j => pl[j]?) (c := z.cells) (absL_rel hzc) (placesS_ok he hplget hps) hl
        refine .pure h (cv := .agg c') ?_ (VRel.agg hr)
        simp only [execOp, Instr.build, Sem.run_bind, hzero, run_underlying hu, Result.andThen_ok, hpl]
        have : (parts.map fun (x : Nat × Operand) => (x.1, ev x.2)).toList = parts.toList.map fun p => (p.1, ev p.2) := by simp
        simp only [this, hfill, Sem.run_pure, Result.andThen_ok]
      · cases hv
    · cases hres
  · rename_i z n e hz hu
    split at hres
    · rename_i zc ps hzc hps
      injection hres with hres; subst hres
      rw [Option.bind_eq_some_iff] at hps
      obtain ⟨sz, hsz, hps⟩ := hps
      simp only [opA] at hv
      split at hv
      · rename_i l hl
        injection hv with hv; injection hv with h1 h2; subst h1; subst h2
        rw [Option.bind_eq_some_iff] at hz
        obtain ⟨i, hi, hiz⟩ := hz
        have hzero : (zeroValue t).run P w = .ok z w := by simp [zeroValue, run_info hi, hiz]
        obtain ⟨c', hfill, hr⟩ := fillA_ok (place := fun j => some (j * sz, sz)) (c := z.cells) (absL_rel hzc) (placesA_ok he hps) hl
        refine .pure h (cv := .agg c') ?_ (VRel.agg hr)
        simp only [execOp, Instr.build, Sem.run_bind, hzero, run_underlying hu, Result.andThen_ok, run_sizeOf_of hsz]
        have : (parts.map fun (x : Nat × Operand) => (x.1, ev x.2)).toList = parts.toList.map fun p => (p.1, ev p.2) := by simp
        simp only [this, hfill, Sem.run_pure, Result.andThen_ok]
      · cases hv
    · cases hres
  · cases hres
theorem ok_field {t : TypeId} {x : Operand} {f : Nat} {X' : X} {fs : Array Field} {fl : Field} {k : Option Nat} (hx : resX P x = some X') (hu : P.underlying t = some (.struct fs)) (hf : fs[f]? = some fl)
    (hk : ldKind P fl.type = some k) : OpOk R P (.field t x f) (.field fl.offset k X') := by
  intro w0 w ρ D σ ts ev v es od ty pos af gd h he hv
  simp only [opA] at hv
  split at hv
  · rename_i l e
    have hr := he _ _ hx
    rw [e] at hr; simp only [VRel] at hr
    obtain ⟨c, hc, hl⟩ := hr
    split at hv
    · rename_i u hp
      injection hv with hv; injection hv with h1 h2; subst h1; subst h2
      obtain ⟨cv, hrun, hcv⟩ := run_part (w := w) hk hl hp
      refine .pure h (cv := cv) ?_ hcv
      simp only [execOp, Instr.field, Sem.run_bind, run_underlying hu, Result.andThen_ok, hf, hc, asAgg, Sem.run_pure, hrun]
    · cases hv
  · cases hv
theorem ok_fieldAddr {s : TypeId} {x : Operand} {f : Nat} {X' : X} {fs : Array Field} {fl : Field} {n : Nat} (hx : resX P x = some X') (hu : P.underlying s = some (.struct fs)) (hf : fs[f]? = some fl)
    (hn : szOf P fl.type = some n) (h0 : n ≠ 0) : OpOk R P (.fieldAddr s x f) (.fieldAddr fl.offset X') := by
  intro w0 w ρ D σ ts ev v es od ty pos af gd h he hv
  simp only [opA] at hv
  split at hv
  · rename_i i o e
    have hr := he _ _ hx
    rw [e] at hr; simp only [VRel] at hr
    obtain ⟨l, hl, hc⟩ := hr
    injection hv with hv; injection hv with h1 h2; subst h1; subst h2
    refine .pure h (cv := .pointer (some ⟨l.blk, l.base + (o + fl.offset), none⟩)) ?_ (VRel.ptr hl)
    simp only [execOp, Instr.fieldAt, Sem.run_bind, run_underlying hu, Result.andThen_ok, hf, hc, Instr.sureAddr, Sem.run_pure, fieldPlace, run_sizeOf_of hn, h0, if_false, add_none, Nat.add_assoc]
  · cases hv
theorem slice_place {o : Nat × Nat} {len : Nat} {cap : Option Nat} {sz : Nat} {c : Value} (h : VRel ρ (.slice (some o) len cap sz) c) (hlen : 0 < len) :
    ∃ l ccap, ρ o.1 = some l ∧ c = .slice (some ⟨l.blk, l.base + o.2, none⟩) len ccap ∧ len ≤ ccap ∧ o.2 + ccap * sz ≤ l.ext := by
  simp only [VRel, SlRel] at h
  obtain ⟨l, a, ccap, h1, h2, h3, h4, h5, h6, _⟩ := h
  have hc : ccap ≠ 0 := by omega
  obtain ⟨h7, h8⟩ := h4.resolve_left hc
  refine ⟨l, ccap, h1, ?_, h5, h6.resolve_left hc⟩
  rw [h2]
  obtain ⟨b, f, s⟩ := a
  simp only at h3 h7 h8
  subst h3; subst h7; subst h8; rfl
theorem ok_idxS {t e : TypeId} {x i : Operand} {X' I : X} {n : Nat} (hx : resX P x = some X') (hi : resX P i = some I) (hu : P.underlying t = some (.slice e)) (hn : szOf P e = some n) :
    OpOk R P (.indexAddr t x i) (.idxS n X' I) := by
  intro w0 w ρ D σ ts ev v es od ty pos af gd h he hv
  simp only [opA] at hv
  split at hv
  · rename_i b o len cap sz' k m e1 e2
    split at hv
    · rename_i hc
      obtain ⟨rfl, h0, h1⟩ := hc
      injection hv with hv; injection hv with h2 h3; subst h2; subst h3
      have hr := he _ _ hx; rw [e1] at hr
      have hir := he _ _ hi; rw [e2] at hir; simp only [VRel] at hir
      obtain ⟨l, ccap, hl, hc, _, _⟩ := slice_place hr (by omega)
      refine .pure h (cv := .pointer (some ⟨l.blk, l.base + (o + m.toNat * sz'), none⟩)) ?_ (VRel.ptr hl)
      simp only [execOp, Instr.indexAt, Sem.run_bind, hir, asIntOf, Sem.run_pure, Result.andThen_ok, run_underlying hu, hc, h0, h1, and_self, if_true, run_sizeOf_of hn, add_none, Nat.add_assoc]
    · cases hv
  · cases hv
theorem ok_idxA {t e : TypeId} {x i : Operand} {X' I : X} {len n : Nat} (hx : resX P x = some X') (hi : resX P i = some I) (hu : P.underlying t = some (.array len e)) (hn : szOf P e = some n) :
    OpOk R P (.indexAddr t x i) (.idxA len n X' I) := by
  intro w0 w ρ D σ ts ev v es od ty pos af gd h he hv
  simp only [opA] at hv
  split at hv
  · rename_i b o k m e1 e2
    split at hv
    · rename_i hc
      obtain ⟨h0, h1⟩ := hc
      injection hv with hv; injection hv with h2 h3; subst h2; subst h3
      have hr := he _ _ hx; rw [e1] at hr; simp only [VRel] at hr
      have hir := he _ _ hi; rw [e2] at hir; simp only [VRel] at hir
      obtain ⟨l, hl, hc⟩ := hr
      refine .pure h (cv := .pointer (some ⟨l.blk, l.base + (o + m.toNat * n), none⟩)) ?_ (VRel.ptr hl)
      simp [execOp, Instr.indexAt, hir, asIntOf, run_underlying hu, hc, Instr.sureAddr, h0, h1, run_sizeOf_of hn, add_none, Nat.add_assoc]
    · cases hv
  · cases hv
theorem data_get (s : ByteArray) (i : Nat) : s[i]? = s.data.toList[i]? := by
  have : s[i]? = s.data[i]? := rfl
  rw [this]; simp
theorem ok_idxStr {t : TypeId} {x i : Operand} {X' I : X} (hx : resX P x = some X') (hi : resX P i = some I) (hu : P.underlying t = some .string) : OpOk R P (.index t x i) (.idxStr X' I) := by
  intro w0 w ρ D σ ts ev v es od ty pos af gd h he hv
  simp only [opA] at hv
  split at hv
  · rename_i s k m e1 e2
    split at hv
    · rename_i h0
      split at hv
      · rename_i b hb
        injection hv with hv; injection hv with h2 h3; subst h2; subst h3
        have hr := he _ _ hx; rw [e1] at hr; simp only [VRel] at hr
        have hir := he _ _ hi; rw [e2] at hir; simp only [VRel] at hir
        obtain ⟨bs, hc, rfl⟩ := hr
        refine .pure h (cv := .int .u8 b.toNat) ?_ VRel.int
        simp only [execOp, Instr.index, Sem.run_bind, hir, asIntOf, Sem.run_pure, Result.andThen_ok, run_underlying hu, hc, h0, if_true, data_get, hb]
      · cases hv
    · cases hv
  · cases hv
theorem ok_idxArr {t e : TypeId} {x i : Operand} {X' I : X} {len n : Nat} {k : Option Nat} (hx : resX P x = some X') (hi : resX P i = some I) (hu : P.underlying t = some (.array len e)) (hn : szOf P e = some n)
    (hk : ldKind P e = some k) : OpOk R P (.index t x i) (.idxArr len n k X' I) := by
  intro w0 w ρ D σ ts ev v es od ty pos af gd h he hv
  simp only [opA] at hv
  split at hv
  · rename_i l q m e1 e2
    split at hv
    · rename_i hc
      split at hv
      · rename_i u hp
        injection hv with hv; injection hv with h2 h3; subst h2; subst h3
        have hr := he _ _ hx; rw [e1] at hr; simp only [VRel] at hr
        have hir := he _ _ hi; rw [e2] at hir; simp only [VRel] at hir
        obtain ⟨c, hce, hl⟩ := hr
        obtain ⟨cv, hrun, hcv⟩ := run_part (w := w) hk hl hp
        refine .pure h (cv := cv) ?_ hcv
        simp only [execOp, Instr.index, Sem.run_bind, hir, asIntOf, Sem.run_pure, Result.andThen_ok, run_underlying hu, hce, hc, and_self, if_true, run_sizeOf_of hn, hrun]
      · cases hv
    · cases hv
  · cases hv
theorem ok_conv {src dst : TypeId} {x : Operand} {X' : X} {k k' : IntKind} (hx : resX P x = some X') (hs : P.underlying src = some (.int k')) (hd : P.underlying dst = some (.int k)) : OpOk R P (.convert src dst x) (.conv k X') := by
  intro w0 w ρ D σ ts ev v es od ty pos af gd h he hv
  simp only [opA] at hv
  split at hv
  · rename_i q n e1
    injection hv with hv; injection hv with h2 h3; subst h2; subst h3
    have hr := he _ _ hx; rw [e1] at hr; simp only [VRel] at hr
    refine .pure h (cv := .int k (k.wrap n)) ?_ (by rw [wrapF_eq]; exact VRel.int)
    simp [execOp, convert, run_underlying hs, run_underlying hd, hr, Conv.intToInt]
  · cases hv
theorem ok_convStr {src dst : TypeId} {x : Operand} {X' : X} (hx : resX P x = some X') (hs : P.underlying src = some .string) (hd : P.underlying dst = some .string) : OpOk R P (.convert src dst x) (.convStr X') := by
  intro w0 w ρ D σ ts ev v es od ty pos af gd h he hv
  simp only [opA] at hv
  split at hv
  · rename_i s e1
    injection hv with hv; injection hv with h2 h3; subst h2; subst h3
    have hr := he _ _ hx; rw [e1] at hr
    have hr' := hr
    simp only [VRel] at hr
    obtain ⟨bs, hc, rfl⟩ := hr
    refine .pure h (cv := ev x) ?_ hr'
    simp [execOp, convert, run_underlying hs, run_underlying hd, hc]
  · cases hv
theorem ok_intStr {src dst : TypeId} {x : Operand} {X' : X} {k' : IntKind} (hx : resX P x = some X') (hs : P.underlying src = some (.int k')) (hd : P.underlying dst = some .string) : OpOk R P (.convert src dst x) (.intStr X') := by
  intro w0 w ρ D σ ts ev v es od ty pos af gd h he hv
  simp only [opA] at hv
  split at hv
  · rename_i k n e1
    injection hv with hv; injection hv with h2 h3; subst h2; subst h3
    have hr := he _ _ hx; rw [e1] at hr; simp only [VRel] at hr
    refine .pure h (cv := .string (Utf8.encode n)) ?_ VRel.str
    simp [execOp, convert, run_underlying hs, run_underlying hd, hr, Conv.intToString]
  · cases hv
theorem ok_mkIface {t : TypeId} {x : Operand} {X' : X} {d : TypeDesc} (hx : resX P x = some X') (hu : P.underlying t = some d) (hd : ∀ m, d ≠ .interface m) : OpOk R P (.makeInterface t x) (.mkIface t X') := by
  intro w0 w ρ D σ ts ev v es od ty pos af gd h he hv
  simp only [opA] at hv
  injection hv with hv; injection hv with h2 h3; subst h2; subst h3
  have hr := he _ _ hx
  refine .pure h (cv := .iface t (ev x)) ?_ (by simp [VRel, hr])
  simp only [execOp, Instr.makeInterface, Sem.run_bind, run_underlying hu, Result.andThen_ok]
  cases d <;> first | rfl | exact absurd rfl (hd _)
theorem ok_mkFunc {fn : Fn} {first cap : Array Operand} {a b : List X} (hy : ∀ l, fn ≠ .yield l) (ha : resXs P first.toList = some a) (hb : resXs P cap.toList = some b) : OpOk R P (.makeFunc fn first cap) (.mkFunc fn a b) := by
  intro w0 w ρ D σ ts ev v es od ty pos af gd h he hv
  simp only [opA] at hv
  injection hv with hv; injection hv with h2 h3; subst h2; subst h3
  refine .pure h (cv := .func fn (first.map ev) (cap.map ev)) rfl ?_
  simp only [VRel]
  exact ⟨_, _, rfl, hy, by simpa using resXs_rel he ha, by simpa using resXs_rel he hb⟩
theorem ok_extract {x : Operand} {i : Nat} {X' : X} (hx : resX P x = some X') : OpOk R P (.extract x i) (.extract i X') := by
  intro w0 w ρ D σ ts ev v es od ty pos af gd h he hv
  simp only [opA] at hv
  split at hv
  · rename_i l e1
    split at hv
    · rename_i u hu
      injection hv with hv; injection hv with h2 h3; subst h2; subst h3
      have hr := he _ _ hx; rw [e1] at hr; simp only [VRel] at hr
      obtain ⟨c, hc, hl⟩ := hr
      obtain ⟨y, hy, hv⟩ := hl.get hu
      refine .pure h (cv := y) ?_ hv
      have : c[i]? = some y := by simpa using hy
      simp [execOp, Instr.extract, hc, this]
    · cases hv
  · cases hv
theorem ok_nilCheck {x : Operand} {X' : X} (hx : resX P x = some X') : OpOk R P (.nilCheck x) (.nilCheck X') := by
  intro w0 w ρ D σ ts ev v es od ty pos af gd h he hv
  simp only [opA] at hv
  have hr := he _ _ hx
  split at hv
  · rename_i p e1
    injection hv with hv; injection hv with h2 h3; subst h2; subst h3
    rw [e1] at hr
    refine .pure h (cv := ev x) ?_ hr
    obtain ⟨i, o⟩ := p
    simp only [VRel] at hr
    obtain ⟨l, _, hc⟩ := hr
    simp [execOp, hc]
  · rename_i f a b e1
    injection hv with hv; injection hv with h2 h3; subst h2; subst h3
    rw [e1] at hr
    refine .pure h (cv := ev x) ?_ hr
    simp only [VRel] at hr
    obtain ⟨_, _, hc, _⟩ := hr
    simp [execOp, hc]
  · rename_i i e1
    injection hv with hv; injection hv with h2 h3; subst h2; subst h3
    rw [e1] at hr
    refine .pure h (cv := ev x) ?_ hr
    simp only [VRel] at hr
    obtain ⟨_, _, hc⟩ := hr
    simp [execOp, hc]
  · rename_i t u e1
    injection hv with hv; injection hv with h2 h3; subst h2; subst h3
    rw [e1] at hr
    refine .pure h (cv := ev x) ?_ hr
    simp only [VRel] at hr
    obtain ⟨_, hc, _⟩ := hr
    simp [execOp, hc]
  · cases hv
theorem zeroA_ok {t : TypeId} {z : AV} (h : zeroA P t = some z) : ∃ cz, (zeroValue t).run P w = .ok cz w ∧ VRel ρ z cz := by
  unfold zeroA at h
  rw [Option.bind_eq_some_iff] at h
  obtain ⟨cz, h1, h2⟩ := h
  rw [Option.bind_eq_some_iff] at h1
  obtain ⟨i, hi, hz⟩ := h1
  exact ⟨cz, by simp [zeroValue, run_info hi, hz], absV_rel h2⟩
theorem ok_assertT {x : Operand} {xt t : TypeId} {ok : Bool} {z : AV} {X' : X} {d : TypeDesc} (hx : resX P x = some X') (hu : P.underlying t = some d) (hd : ∀ m, d ≠ .interface m) (hz : zeroA P t = some z) :
    OpOk R P (.typeAssert x xt t ok) (.assertT t ok z X') := by
  intro w0 w ρ D σ ts ev v es od ty pos af gd h he hv
  simp only [opA] at hv
  have hr := he _ _ hx
  obtain ⟨cz, hzr, hzv⟩ := zeroA_ok (w := w) (ρ := ρ) hz
  split at hv
  · rename_i t' u e1
    rw [e1] at hr; simp only [VRel] at hr
    obtain ⟨y, hc, hy⟩ := hr
    split at hv
    · rename_i ht
      subst ht
      injection hv with hv; injection hv with h2 h3; subst h2; subst h3
      refine .pure h (cv := if ok then .tuple #[y, .bool true] else y) ?_ (by cases ok <;> simp [VRel, VRelL, hy])
      simp only [execOp, Instr.typeAssert, Sem.run_bind, run_underlying hu, hc, Result.andThen_ok]
      cases d <;> first | exact absurd rfl (hd _) | (cases ok <;> simp)
    · rename_i ht
      split at hv
      · rename_i hok
        injection hv with hv; injection hv with h2 h3; subst h2; subst h3
        refine .pure h (cv := .tuple #[cz, .bool false]) ?_ (by simp [VRel, VRelL, hzv])
        simp only [execOp, Instr.typeAssert, Sem.run_bind, run_underlying hu, hc, Result.andThen_ok]
        cases d <;> first | exact absurd rfl (hd _) | simp [ht, hok, hzr]
      · cases hv
  · rename_i e1
    rw [e1] at hr; simp only [VRel] at hr
    split at hv
    · rename_i hok
      injection hv with hv; injection hv with h2 h3; subst h2; subst h3
      refine .pure h (cv := .tuple #[cz, .bool false]) ?_ (by simp [VRel, VRelL, hzv])
      simp only [execOp, Instr.typeAssert, Sem.run_bind, run_underlying hu, hr, Result.andThen_ok]
      cases d <;> first | exact absurd rfl (hd _) | simp [hok, hzr]
    · cases hv
  · cases hv
end Go.Am
namespace Go.Am
open Go.RowKit
variable {R : Code → AC → Prop} {P : Program} {w0 w w' : World} {ρ ρ' : RMap} {D : List Nat × List Nat} {σ : AState} {ts : List AV} {ev : Operand → Value} {v : AV} {es : List Eff}
def ORel (ρ : RMap) : Option AV → Option Value → Prop
  | none, none => True
  | some x, some v => VRel ρ x v
  | _, _ => False
theorem resXO_rel (h : EvRel P ρ ts ev) {x : Option Operand} {y : Option X} (e : resXO P x = some y) : ORel ρ (evO ts y) (x.map ev) := by
  cases x with
  | none => simp only [resXO, Option.some.injEq] at e; subst e; trivial
  | some x =>
    simp only [resXO, Option.map_eq_some_iff] at e
    obtain ⟨z, hz, rfl⟩ := e
    exact h _ _ hz
theorem natOf_rel {x : AV} {c : Value} {n : Nat} (hx : VRel ρ x c) (h : natOf x = some n) : ∃ k, c = .int k (n : Int) := by
  unfold natOf at h
  split at h
  · injection h with h; subst h
    simp only [VRel] at hx
    exact ⟨_, hx⟩
  · cases h
theorem run_bound {x : AV} {c : Value} {n y : Nat} {code : BoundsCode} (hx : VRel ρ x c) (h : natOf x = some n) (hn : n ≤ y) : (Instr.sliceBound c y code).run P w = .ok n w := by
  obtain ⟨k, rfl⟩ := natOf_rel hx h
  have h1 : (0 : Int) ≤ n ∧ (n : Int) ≤ y := by omega
  simp [Instr.sliceBound, asIntOf, h1]
theorem upTo_ok {x : AV} {c : Value} {n y : Nat} (h : upTo x y = some n) (hx : VRel ρ x c) : n ≤ y ∧ ∀ (y' : Nat) (code : BoundsCode), n ≤ y' → (Instr.sliceBound c y' code).run P w = .ok n w := by
  unfold upTo at h
  split at h
  · rename_i m hm
    split at h
    · injection h with h; subst h
      exact ⟨by assumption, fun y' code hy => run_bound hx hm hy⟩
    · cases h
  · cases h
theorem bounds_ok {sl : Bool} {len ccap : Nat} {cap : Option Nat} {lo hi mx : Option AV} {lv hv mv : Option Value} {l h : Nat} {c' : Option Nat} (hlo : ORel ρ lo lv) (hhi : ORel ρ hi hv) (hmx : ORel ρ mx mv)
    (hcap : ∀ c, cap = some c → ccap = c) (hle : len ≤ ccap) (hb : boundsA len cap lo hi mx = some (l, h, c')) :
    ∃ m, (Instr.sliceBounds sl len ccap lv hv mv).run P w = .ok (l, h, m) w ∧ l ≤ h ∧ h ≤ m ∧ m ≤ ccap ∧ ∀ c, c' = some c → m - l = c := by
  unfold boundsA at hb
  have htop : cap.getD len ≤ ccap := by
    cases cap with
    | none => exact hle
    | some c => simp [hcap c rfl]
  cases hm : bMax (cap.getD len) mx with
  | none => rw [hm] at hb; cases hb
  | some m =>
    rw [hm] at hb; dsimp only at hb
    cases hh : bHigh len (cap.getD len) m hi with
    | none => rw [hh] at hb; cases hb
    | some h1 =>
      rw [hh] at hb; dsimp only at hb
      cases hl : bLow h1 lo with
      | none => rw [hl] at hb; cases hb
      | some l1 =>
        rw [hl] at hb; dsimp only at hb
        injection hb with hb; injection hb with e1 e2; injection e2 with e2 e3
        subst e1; subst e2
        have hlow : l1 ≤ h1 ∧ ∀ code, (match (generalizing := false) lv with | some v => Instr.sliceBound v h1 code | none => Pure.pure 0 : Sem Nat).run P w = .ok l1 w := by
          cases lo with
          | none => cases lv with
            | some _ => exact hlo.elim
            | none => simp only [bLow, Option.some.injEq] at hl; subst hl; exact ⟨Nat.zero_le _, fun _ => rfl⟩
          | some x => cases lv with
            | none => exact hlo.elim
            | some u =>
              obtain ⟨q1, q2⟩ := upTo_ok (P := P) (w := w) hl hlo
              exact ⟨q1, fun code => q2 _ code q1⟩
        cases mx with
        | none =>
          simp only [bMax, Option.some.injEq] at hm; subst hm
          cases mv with
          | some _ => exact hmx.elim
          | none =>
            have hhigh : h1 ≤ ccap ∧ ∀ code, (match (generalizing := false) hv with | some v => Instr.sliceBound v ccap code | none => Pure.pure len : Sem Nat).run P w = .ok h1 w := by
              cases hi with
              | none => cases hv with
                | some _ => exact hhi.elim
                | none => simp only [bHigh, Option.some.injEq] at hh; subst hh; exact ⟨hle, fun _ => rfl⟩
              | some x => cases hv with
                | none => exact hhi.elim
                | some u =>
                  obtain ⟨q1, q2⟩ := upTo_ok (P := P) (w := w) hh hhi
                  simp only [Option.getD_none] at q1
                  exact ⟨by omega, fun code => q2 _ code (by omega)⟩
            refine ⟨ccap, ?_, hlow.1, hhigh.1, Nat.le_refl _, fun c hc => ?_⟩
            · unfold Instr.sliceBounds
              cases hv with
              | none =>
                have h1r := hhigh.2 .sliceB
                dsimp only at h1r
                cases lv with
                | none => have h2r := hlow.2 .sliceB; dsimp only at h2r; simp only [Sem.run_bind, Sem.run_pure, Result.andThen_ok] at h1r h2r ⊢; injection h1r with h1r; injection h2r with h2r; subst h1r; subst h2r; rfl
                | some a => have h2r := fun code => hlow.2 code; dsimp only at h2r; simp only [Sem.run_bind, Sem.run_pure, Result.andThen_ok] at h1r ⊢; injection h1r with h1r; subst h1r; rw [h2r]; rfl
              | some b =>
                have h1r := fun code => hhigh.2 code
                dsimp only at h1r
                cases lv with
                | none => have h2r := hlow.2 .sliceB; dsimp only at h2r; simp only [Sem.run_bind, Sem.run_pure, Result.andThen_ok, h1r] at h2r ⊢; injection h2r with h2r; subst h2r; rfl
                | some a => have h2r := fun code => hlow.2 code; dsimp only at h2r; simp only [Sem.run_bind, Sem.run_pure, Result.andThen_ok, h1r, h2r]
            · rw [hc] at e3
              cases cap with
              | none => simp at e3
              | some q => simp only [Option.map_some, Option.some.injEq] at e3; rw [hcap q rfl]; exact e3
        | some xm =>
          cases mv with
          | none => exact hmx.elim
          | some um =>
            simp only [bMax] at hm
            split at hm
            · rename_i m1 hm1
              injection hm with hm; subst hm
              obtain ⟨q1, q2⟩ := upTo_ok (P := P) (w := w) hm1 hmx
              cases hi with
              | none => simp [bHigh] at hh
              | some x => cases hv with
                | none => exact hhi.elim
                | some u =>
                  obtain ⟨r1, r2⟩ := upTo_ok (P := P) (w := w) hh hhi
                  simp only [Option.getD_some] at r1
                  refine ⟨m1, ?_, hlow.1, r1, by omega, fun c hc => ?_⟩
                  · unfold Instr.sliceBounds
                    cases lv with
                    | none => have h2r := hlow.2 .sliceB; dsimp only at h2r; simp only [Sem.run_bind, Sem.run_pure, Result.andThen_ok, q2 _ _ (show m1 ≤ ccap by omega), r2 _ _ r1] at h2r ⊢; injection h2r with h2r; subst h2r; rfl
                    | some a => have h2r := fun code => hlow.2 code; dsimp only at h2r; simp only [Sem.run_bind, Sem.run_pure, Result.andThen_ok, q2 _ _ (show m1 ≤ ccap by omega), r2 _ _ r1, h2r]
                  · rw [hc] at e3; simpa using e3
            · cases hm
theorem ok_sliceS {t e : TypeId} {x : Operand} {lo hi mx : Option Operand} {X' : X} {lo' hi' mx' : Option X} {n : Nat} (hx : resX P x = some X') (hlo : resXO P lo = some lo') (hhi : resXO P hi = some hi') (hmx : resXO P mx = some mx')
    (hu : P.underlying t = some (.slice e)) (hn : szOf P e = some n) : OpOk R P (.slice t x lo hi mx) (.sliceS n X' lo' hi' mx') := by
  intro w0 w ρ D σ ts ev v es od ty pos af gd h he hv
  simp only [opA] at hv
  split at hv
  · rename_i o len cap sz' e1
    split at hv
    · rename_i hsz
      split at hv
      · rename_i l hh c' hb
        injection hv with hv; injection hv with h2 h3; subst h2; subst h3
        have hr := he _ _ hx; rw [e1] at hr; simp only [VRel] at hr
        cases o with
        | none =>
          simp only [SlRel] at hr
          obtain ⟨rfl, hc0, hc⟩ := hr
          obtain ⟨m, hrun, h4, h5, h6, h7⟩ := bounds_ok (P := P) (w := w) (sl := true) (len := 0) (ccap := 0) (cap := cap) (resXO_rel he hlo) (resXO_rel he hhi) (resXO_rel he hmx) (fun c e => (hc0 c e).symm) (Nat.le_refl _) hb
          obtain rfl : m = 0 := by omega
          obtain rfl : hh = 0 := by omega
          obtain rfl : l = 0 := by omega
          refine .pure h (cv := .slice none 0 0) ?_ ?_
          · simp only [execOp, Instr.sliceAt, Instr.slice, Sem.run_bind, run_underlying hu, hc, Result.andThen_ok, hrun, run_sizeOf_of hn, Sem.run_pure, if_true, Nat.sub_zero]
          · simp only [VRel, SlRel, Option.map_none]
            exact ⟨trivial, fun c e => (h7 c e).symm, trivial⟩
        | some p =>
          obtain ⟨i, off⟩ := p
          obtain rfl : sz' = n := by simpa using hsz
          simp only [SlRel] at hr
          obtain ⟨loc, a, ccap, r1, r2, r3, r4, r5, r6, r7⟩ := hr
          obtain ⟨m, hrun, h4, h5, h6, h7⟩ := bounds_ok (P := P) (w := w) (sl := true) (len := len) (ccap := ccap) (cap := cap) (resXO_rel he hlo) (resXO_rel he hhi) (resXO_rel he hmx) r7 r5 hb
          refine .pure h (cv := .slice (some (if m = l then a else a.add (l * sz'))) (hh - l) (m - l)) ?_ ?_
          · simp only [execOp, Instr.sliceAt, Instr.slice, Sem.run_bind, run_underlying hu, r2, Result.andThen_ok, hrun, run_sizeOf_of hn, Sem.run_pure]
            by_cases hml : m = l <;> simp [hml]
          · simp only [VRel, SlRel, Option.map_some]
            refine ⟨loc, _, _, r1, rfl, ?_, ?_, by omega, ?_, h7⟩
            · split
              · exact r3
              · unfold Addr.add; split
                · exact r3
                · rfl
            · by_cases hml : m = l
              · left; omega
              · right
                rw [if_neg hml]
                have hc : ccap ≠ 0 := by omega
                obtain ⟨q1, q2⟩ := r4.resolve_left hc
                obtain ⟨ab, ao, az⟩ := a
                simp only at r3 q1 q2; subst r3
                rw [add_none]; simp only; exact ⟨q1, by omega⟩
            · by_cases hml : m = l
              · left; omega
              · right
                have hc : ccap ≠ 0 := by omega
                have := r6.resolve_left hc
                have : off + l * sz' + (m - l) * sz' = off + m * sz' := by
                  rw [Nat.add_assoc, ← Nat.add_mul]; congr 2; omega
                have : m * sz' ≤ ccap * sz' := Nat.mul_le_mul_right _ h6
                omega
      · cases hv
    · cases hv
  · cases hv
theorem ok_sliceStr {t : TypeId} {x : Operand} {lo hi : Option Operand} {X' : X} {lo' hi' : Option X} (hx : resX P x = some X') (hlo : resXO P lo = some lo') (hhi : resXO P hi = some hi')
    (hu : P.underlying t = some .string) : OpOk R P (.slice t x lo hi none) (.sliceStr X' lo' hi') := by
  intro w0 w ρ D σ ts ev v es od ty pos af gd h he hv
  simp only [opA] at hv
  split at hv
  · rename_i s e1
    split at hv
    · rename_i l hh c' hb
      injection hv with hv; injection hv with h2 h3; subst h2; subst h3
      have hr := he _ _ hx; rw [e1] at hr; simp only [VRel] at hr
      obtain ⟨bs, hc, rfl⟩ := hr
      have hsz : bs.data.toList.length = bs.size := by simp
      rw [hsz] at hb
      obtain ⟨m, hrun, h4, h5, h6, h7⟩ := bounds_ok (P := P) (w := w) (sl := false) (len := bs.size) (ccap := bs.size) (cap := some bs.size) (mx := none) (mv := none) (resXO_rel he hlo) (resXO_rel he hhi) trivial (fun c e => by simpa using e) (Nat.le_refl _) hb
      refine .pure h (cv := .string (bs.extract l hh)) ?_ ?_
      · simp only [execOp, Instr.sliceAt, Instr.slice, Sem.run_bind, run_underlying hu, hc, Result.andThen_ok, Option.map_none, Option.isSome_none, Bool.false_eq_true, if_false, Sem.run_pure, hrun]
      · simp only [VRel]
        refine ⟨_, rfl, ?_⟩
        rw [ByteArray.data_extract, Array.toList_extract, List.extract_eq_take_drop, List.drop_take]
    · cases hv
  · cases hv
theorem ok_max {l : Array Operand} {l' : List X} {ats : Array TypeId} (hl : resXs P l.toList = some l') : OpOk R P (.call { callee := .builtin .max, args := l, argTypes := ats }) (.max l') := by
  intro w0 w ρ D σ ts ev v es od ty pos af gd h he hv
  simp only [opA] at hv
  have hr := resXs_rel he hl
  split at hv
  · rename_i x r e1
    split at hv
    · rename_i u hu
      injection hv with hv; injection hv with h2 h3; subst h2; subst h3
      rw [e1] at hr
      obtain ⟨y, ys, hy, hx, hrr⟩ := VRelL.cons_iff.1 hr
      have key : ∀ (r : List AV) (ys : List Value) (x : AV) (y : Value), VRelL ρ r ys → VRel ρ x y → maxA x r = some u → ∃ cv, (ys.foldlM Builtin.max2 y : Sem Value).run P w = .ok cv w ∧ VRel ρ u cv := by
        intro r
        induction r with
        | nil =>
          intro ys x y hr hx hm
          rw [VRelL.nil_iff.1 hr]
          simp only [maxA, Option.some.injEq] at hm; subst hm
          exact ⟨y, rfl, hx⟩
        | cons b r ih =>
          intro ys x y hr hx hm
          obtain ⟨z, zs, rfl, hb, hrr⟩ := VRelL.cons_iff.1 hr
          cases x <;> cases b <;> simp only [maxA] at hm <;> try (cases hm; done)
          rename_i k n k' n'
          split at hm
          · rename_i hk; subst hk
            simp only [VRel] at hx hb; subst hx; subst hb
            obtain ⟨cv, h1, h2⟩ := ih zs _ (.int k (if n' > n then n' else n)) hrr VRel.int hm
            refine ⟨cv, ?_, h2⟩
            simp only [List.foldlM_cons, Sem.run_bind, Builtin.max2, Sem.run_pure, Result.andThen_ok]
            exact h1
          · cases hm
      obtain ⟨cv, h1, h2⟩ := key r ys x y hrr hx hu
      refine .pure h (cv := cv) ?_ h2
      have : (l.map ev).toList = y :: ys := by simpa using hy
      simp only [execOp, resolve, Sem.run_bind, Sem.run_pure, Result.andThen_ok, invoke, builtin, Builtin.max_, this, h1]
    · cases hv
  · cases hv
theorem ok_min {l : Array Operand} {l' : List X} {ats : Array TypeId} (hl : resXs P l.toList = some l') : OpOk R P (.call { callee := .builtin .min, args := l, argTypes := ats }) (.min l') := by
  intro w0 w ρ D σ ts ev v es od ty pos af gd h he hv
  simp only [opA] at hv
  have hr := resXs_rel he hl
  split at hv
  · rename_i x r e1
    split at hv
    · rename_i u hu
      injection hv with hv; injection hv with h2 h3; subst h2; subst h3
      rw [e1] at hr
      obtain ⟨y, ys, hy, hx, hrr⟩ := VRelL.cons_iff.1 hr
      have key : ∀ (r : List AV) (ys : List Value) (x : AV) (y : Value), VRelL ρ r ys → VRel ρ x y → minA x r = some u → ∃ cv, (ys.foldlM Builtin.min2 y : Sem Value).run P w = .ok cv w ∧ VRel ρ u cv := by
        intro r
        induction r with
        | nil =>
          intro ys x y hr hx hm
          rw [VRelL.nil_iff.1 hr]
          simp only [minA, Option.some.injEq] at hm; subst hm
          exact ⟨y, rfl, hx⟩
        | cons b r ih =>
          intro ys x y hr hx hm
          obtain ⟨z, zs, rfl, hb, hrr⟩ := VRelL.cons_iff.1 hr
          cases x <;> cases b <;> simp only [minA] at hm <;> try (cases hm; done)
          rename_i k n k' n'
          split at hm
          · rename_i hk; subst hk
            simp only [VRel] at hx hb; subst hx; subst hb
            obtain ⟨cv, h1, h2⟩ := ih zs _ (.int k (if n' < n then n' else n)) hrr VRel.int hm
            refine ⟨cv, ?_, h2⟩
            simp only [List.foldlM_cons, Sem.run_bind, Builtin.min2, Sem.run_pure, Result.andThen_ok]
            exact h1
          · cases hm
      obtain ⟨cv, h1, h2⟩ := key r ys x y hrr hx hu
      refine .pure h (cv := cv) ?_ h2
      have : (l.map ev).toList = y :: ys := by simpa using hy
      simp only [execOp, resolve, Sem.run_bind, Sem.run_pure, Result.andThen_ok, invoke, builtin, Builtin.min_, this, h1]
    · cases hv
  · cases hv
end Go.Am
namespace Go.Am
open Go.RowKit
variable {R : Code → AC → Prop} {P : Program} {w0 w w' : World} {ρ ρ' : RMap} {D : List Nat × List Nat} {σ : AState} {ts : List AV} {ev : Operand → Value} {v : AV} {es : List Eff}
theorem run_loadVar {t : TypeId} {k : Option Nat} {i o : Nat} {l : List AV} {wr : Bool} {m : Loc} {v : AV} (h : SRel R P w0 ρ D σ w) (hk : ldKind P t = some k) (hg : σ.get i = some (.cells l wr)) (hm : ρ i = some m) (hp : partA l o k = some v) :
    ∃ cv, (loadVar t ⟨m.blk, m.base + o, none⟩).run P w = .ok cv w ∧ VRel ρ v cv := by
  have hb := h.blk i _ m hg hm
  cases k with
  | none =>
    simp only [partA] at hp
    obtain ⟨y, hy, hv⟩ := hb.2.1 _ _ hp
    refine ⟨y, ?_, hv⟩
    simp only [loadVar, Sem.run_bind, ldKind_none hk, Result.andThen_ok, Bool.false_eq_true, if_false, run_load, hy]
  | some n =>
    obtain ⟨h1, h2⟩ := ldKind_some (w := w) hk
    simp only [partA] at hp
    split at hp
    · rename_i hn
      injection hp with hp; subst hp
      obtain ⟨cs, hlen, hv, hc⟩ := BRel.read hb hn
      refine ⟨.agg cs.toArray, ?_, VRel.agg (by simpa using hv)⟩
      have hl := run_loadAt (P := P) (w := w) (a := ⟨m.blk, m.base + o, none⟩) rfl (cs := cs) hc
      rw [hlen] at hl
      simp only [loadVar, Sem.run_bind, h1, Result.andThen_ok, if_true, run_sizeOf_of h2, hl, Sem.run_pure]
    · cases hp
theorem ok_load {t : TypeId} {x : Operand} {X' : X} {k : Option Nat} (hx : resX P x = some X') (hk : ldKind P t = some k) : OpOk R P (.load t x) (.load k X') := by
  intro w0 w ρ D σ ts ev v es od ty pos af gd h he hv
  simp only [opA] at hv
  split at hv
  · rename_i i o e1
    split at hv
    · rename_i l wr hg
      split at hv
      · rename_i u hp
        injection hv with hv; injection hv with h2 h3; subst h2; subst h3
        have hr := he _ _ hx; rw [e1] at hr; simp only [VRel] at hr
        obtain ⟨m, hm, hc⟩ := hr
        obtain ⟨cv, hrun, hcv⟩ := run_loadVar h hk hg hm hp
        refine .pure h (cv := cv) ?_ hcv
        simp only [execOp, Instr.loadAt, hc, Instr.sureAddr, Sem.run_bind, Sem.run_pure, Result.andThen_ok, hrun]
      · cases hv
    · cases hv
  · cases hv
theorem ok_store {t : TypeId} {a x : Operand} {A X' : X} {n : Nat} (ha : resX P a = some A) (hx : resX P x = some X') (hn : szOf P t = some n) : OpOk R P (.store t a x) (.store n A X') := by
  intro w0 w ρ D σ ts ev v es od ty pos af gd h he hv
  simp only [opA] at hv
  split at hv
  · rename_i i o e1
    split at hv
    · rename_i l hg
      split at hv
      · rename_i hc
        obtain ⟨hc1, hc2, hc3⟩ := hc
        injection hv with hv; injection hv with h2 h3; subst h2; subst h3
        have hr := he _ _ ha; rw [e1] at hr; simp only [VRel] at hr
        obtain ⟨m, hm, hca⟩ := hr
        have hxr := (he _ _ hx).cells
        obtain ⟨w', hrun, hS⟩ := h.store (P := P) hg hm (o := o) (by omega) hxr hc3
        have hsz : (ev x).cells.size = n := by rw [← hc1, hxr.length]; simp
        refine ⟨ρ, undef, w', .skip, RX.refl _ _, ?_, rfl, VRel.U, hS⟩
        simp only [execOp, Instr.storeAt, hca, Instr.sureAddr, Sem.run_bind, Sem.run_pure, Result.andThen_ok, storeVar, run_sizeOf_of hn, hsz, ne_eq, not_true, if_false, hrun]
      · cases hv
    · cases hv
  · cases hv
theorem below_push (w : World) (o : Obj) : Below w.heap.size w { w with heap := w.heap.push o } := by
  have := (Below.refl w.heap.size w).alloc (Nat.le_refl _) o
  exact this
theorem brel_new {B : Nat} {c : Array Value} {t : TypeId} {l : List AV} {ρ : RMap} (hB : B ≤ w.heap.size) (hl : VRelL ρ l (c.toList.take l.length)) (hle : l.length ≤ c.size) :
    BRel R B ρ { w with heap := w.heap.push (.cells c t) } (.cells l true) ⟨w.heap.size, 0, c.size⟩ := by
  have hcell : ∀ k, World.cell? { w with heap := w.heap.push (.cells c t) } ⟨w.heap.size, 0 + k, none⟩ = c[k]? := fun k => by
    rw [Nat.zero_add]; exact World.cell?_alloc_new w c t k
  refine ⟨hle, fun k x e => ?_, fun _ => ⟨hB, fun k hk => ⟨?_, ?_⟩⟩⟩
  · rw [hcell]
    obtain ⟨y, hy, hv⟩ := hl.get e
    rw [List.getElem?_take] at hy
    split at hy
    · exact ⟨y, by simpa using hy, hv⟩
    · cases hy
  · rw [hcell]
    exact ⟨c[k], Array.getElem?_eq_getElem hk⟩
  · rw [Nat.zero_add]; exact World.frozen?_alloc_new w c t k
theorem SRel.newRow (h : SRel R P w0 ρ D σ w) {c : Array Value} {t : TypeId} {l : List AV} (hl : VRelL ρ l (c.toList.take l.length)) (hle : l.length ≤ c.size) :
    SRel R P w0 (upd ρ σ.next ⟨w.heap.size, 0, c.size⟩) D (σ.push (.cells l true)) { w with heap := w.heap.push (.cells c t) } :=
  h.push (below_push _ _) (Nat.le_refl _) (by simp) (brel_new h.below.size (VRelL.mono (h.le_next _) _ _ hl) hle)
theorem ok_box {t : TypeId} {x : Operand} {X' : X} (hx : resX P x = some X') : OpOk R P (.box t x) (.box X') := by
  intro w0 w ρ D σ ts ev v es od ty pos af gd h he hv
  simp only [opA] at hv
  injection hv with hv; injection hv with h2 h3; subst h2; subst h3
  have hr := (he _ _ hx).cells
  have hlen : (X.ev ts X').cells.length = (ev x).cells.size := by rw [hr.length]; simp
  refine ⟨_, .pointer (some ⟨w.heap.size, 0, none⟩), _, .value _, h.rx _, ?_, rfl, ?_, h.newRow (t := t) (c := (ev x).cells) (by rw [hlen, ← Array.length_toList, List.take_length]; exact hr) (by omega)⟩
  · simp only [execOp, Instr.box, newVar, Go.newRow, Sem.run_bind, run_newObj, Result.andThen_ok, Sem.run_pure]
  · simp only [VRel]; exact ⟨_, upd_same _ _ _, rfl⟩
theorem ok_alloc {e : TypeId} {i : TypeInfo} {z : Value} {l : List AV} (hi : P.info? e = some i) (hz : i.zero = some z) (hl : absL z.cells.toList = some l) : OpOk R P (.alloc e) (.alloc l) := by
  intro w0 w ρ D σ ts ev v es od ty pos af gd h he hv
  simp only [opA] at hv
  injection hv with hv; injection hv with h2 h3; subst h2; subst h3
  have hr := absL_rel (ρ := ρ) hl
  have hlen : l.length = z.cells.size := by rw [hr.length]; simp
  refine ⟨_, .pointer (some ⟨w.heap.size, 0, none⟩), _, .value _, h.rx _, ?_, rfl, ?_, h.newRow (t := e) (c := z.cells) (by rw [hlen, ← Array.length_toList, List.take_length]; exact hr) (by omega)⟩
  · have hzero : (zeroValue e).run P w = .ok z w := by simp [zeroValue, run_info hi, hz]
    simp only [execOp, Instr.alloc, newVar, Go.newRow, Sem.run_bind, hzero, run_newObj, Result.andThen_ok, Sem.run_pure]
  · simp only [VRel]; exact ⟨_, upd_same _ _ _, rfl⟩
theorem zeros_rel {zc : List AV} {z : Array Value} (hz : VRelL ρ zc z.toList) (h0 : 0 < z.size) (n : Nat) : VRelL ρ (List.replicate n zc).flatten ((Array.range (n * z.size)).map (z[· % z.size]!)).toList := by
  have hlen : zc.length = z.size := by rw [hz.length]; simp
  refine .of_get (by simp [hlen]) fun i x e => ?_
  have hi : i < n * z.size := by
    rcases Nat.lt_or_ge i (n * z.size) with h | h
    · exact h
    · rw [List.getElem?_eq_none (by simp [hlen]; omega)] at e; cases e
  have hq : (List.replicate n zc).flatten[i]? = zc[i % z.size]? := by
    clear e x
    induction n generalizing i with
    | zero => simp at hi
    | succ n ih =>
      rw [List.replicate_succ, List.flatten_cons]
      by_cases hlt : i < z.size
      · rw [List.getElem?_append_left (by omega), Nat.mod_eq_of_lt hlt]
      · rw [List.getElem?_append_right (by omega), hlen, ih (i - z.size) (by rw [Nat.succ_mul] at hi; omega)]
        congr 1
        rw [Nat.mod_eq_sub_mod (a := i) (by omega)]
  rw [hq] at e
  obtain ⟨y, hy, hv⟩ := hz.get e
  refine ⟨y, ?_, hv⟩
  have hm : i % z.size < z.size := Nat.mod_lt _ h0
  have hy' : z[i % z.size]! = y := by
    rw [getElem!_pos z _ hm]
    have : z.toList[i % z.size]? = some z[i % z.size] := by simp [hm]
    rw [this] at hy; exact Option.some.inj hy
  simp [hi, hy']
theorem ok_buildSlice {t : TypeId} {len : Nat} {parts : Array (Nat × Operand)} {ao : AOp} (hres : resBuildSlice P t len parts = some ao) : OpOk R P (.buildSlice t len parts) ao := by
  intro w0 w ρ D σ ts ev v es od ty pos af gd h he hv
  unfold resBuildSlice at hres
  split at hres
  · rename_i e hu
    split at hres
    · rename_i i hi
      split at hres
      · rename_i z hz
        split at hres
        · rename_i zc ps hzc hps
          split at hres
          · rename_i hc
            obtain ⟨hc1, hc2, hc3⟩ := hc
            injection hres with hres; subst hres
            simp only [opA] at hv
            split at hv
            · rename_i l hl
              injection hv with hv; injection hv with h2 h3; subst h2; subst h3
              have hsz : szOf P e = some i.size := by simp [szOf, hi]
              have hzero : (zeroValue e).run P w = .ok z w := by simp [zeroValue, run_info hi, hz]
              have hzr := zeros_rel (ρ := ρ) (absL_rel hzc) (by omega) len
              rw [hc2] at hzr
              obtain ⟨c', hfill, hr⟩ := fillA_ok (place := fun j => some (j * i.size, i.size)) (c := (Array.range (len * i.size)).map (z.cells[· % i.size]!)) hzr (placesA_ok he hps) hl
              have hlen : l.length = c'.size := by rw [hr.length]; simp
              have hparts : (parts.map fun (x : Nat × Operand) => (x.1, ev x.2)).toList = parts.toList.map fun p => (p.1, ev p.2) := by simp
              have hle : ¬ len * i.size > 2 ^ 24 := by omega
              have hlc : len * i.size ≤ c'.size := by
                have key : ∀ (ps : List (Nat × Nat × AV)) (l l' : List AV), fillA l ps = some l' → l'.length = l.length := by
                  intro ps
                  induction ps with
                  | nil => intro l l' e; simp only [fillA, Option.some.injEq] at e; rw [e]
                  | cons p ps ih =>
                    obtain ⟨o, s, v⟩ := p
                    intro l l' e
                    simp only [fillA] at e
                    split at e
                    · rename_i hcc
                      rw [ih _ _ e]; simp; omega
                    · cases e
                have := key _ _ _ hl
                have h1 : zc.length = i.size := by rw [(absL_rel (ρ := ρ) hzc).length]; simpa using hc2
                rw [← hlen, this]; simp [h1]
              refine ⟨_, .slice (some ⟨w.heap.size, 0, none⟩) len len, _, .value _, h.rx _, ?_, rfl, ?_, h.newRow (t := e) (c := c') (by rw [hlen, ← Array.length_toList, List.take_length]; exact hr) (by omega)⟩
              · by_cases h0 : len * i.size = 0
                · have hl0 : len = 0 := by
                    rcases Nat.mul_eq_zero.1 h0 with h | h
                    · exact h
                    · omega
                  subst hl0
                  simp only [execOp, Instr.buildSlice, Sem.run_bind, run_underlying hu, Result.andThen_ok, run_sizeOf_of hsz, h0, if_true, Sem.run_pure, hparts]
                  simp only [Nat.zero_mul] at hfill
                  simp only [Array.range_zero', Array.map_empty] at hfill ⊢
                  rw [if_neg (by omega)]
                  simp only [hfill, Go.newRow, Sem.run_bind, run_newObj, Result.andThen_ok, Sem.run_pure]
                · simp only [execOp, Instr.buildSlice, Sem.run_bind, run_underlying hu, Result.andThen_ok, run_sizeOf_of hsz, hle, if_false, h0, hzero, Sem.run_pure, hparts, hc2, hfill, Go.newRow, run_newObj]
              · simp only [VRel, SlRel]
                refine ⟨_, _, len, upd_same _ _ _, rfl, rfl, .inr ⟨rfl, rfl⟩, Nat.le_refl _, .inr ?_, fun c e => Option.some.inj e⟩
                simpa using hlc
            · cases hv
          · cases hres
        · cases hres
      · cases hres
    · cases hres
  · cases hres
theorem ok_mkMap {t : TypeId} : OpOk R P (.makeMap t none) .mkMap := by
  intro w0 w ρ D σ ts ev v es od ty pos af gd h he hv
  simp only [opA] at hv
  injection hv with hv; injection hv with h2 h3; subst h2; subst h3
  have hS := h.push (b := .map []) (m := ⟨w.heap.size, 0, 0⟩) (below_push w (.map #[] 0)) (Nat.le_refl _) (by simp) ⟨h.below.size, #[], 0, by simp, rfl⟩
  refine ⟨_, .map (some w.heap.size), _, .value _, h.rx _, ?_, rfl, ?_, hS⟩
  · simp only [execOp, Option.map_none, Instr.makeMap, Sem.run_bind, Sem.run_pure, Result.andThen_ok, run_newObj]
  · simp only [VRel]; exact ⟨_, upd_same _ _ _, rfl⟩
theorem ok_rangeStr {t : TypeId} {x : Operand} {X' : X} (hx : resX P x = some X') (hu : P.underlying t = some .string) : OpOk R P (.range t x) (.rangeStr X') := by
  intro w0 w ρ D σ ts ev v es od ty pos af gd h he hv
  simp only [opA] at hv
  split at hv
  · rename_i s e1
    injection hv with hv; injection hv with h2 h3; subst h2; subst h3
    have hr := he _ _ hx; rw [e1] at hr; simp only [VRel] at hr
    obtain ⟨bs, hc, hbs⟩ := hr
    have hS := h.push (b := .iter s 0) (m := ⟨w.heap.size, 0, 0⟩) (below_push w (.stringIter bs 0)) (Nat.le_refl _) (by simp) ⟨h.below.size, rfl, bs, by simp, hbs⟩
    refine ⟨_, .pointer (some ⟨w.heap.size, 0, none⟩), _, .value _, h.rx _, ?_, rfl, ?_, hS⟩
    · simp only [execOp, Instr.range, Sem.run_bind, run_underlying hu, hc, Sem.run_pure, Result.andThen_ok, run_newObj]
    · simp only [VRel]; exact ⟨_, upd_same _ _ _, rfl⟩
  · cases hv
theorem run_getObj {r : Nat} {o : Obj} (h : w.heap[r]? = some o) (hc : ∀ c t f, o ≠ .cells c t f) : (getObj r).run P w = .ok o w := by
  simp only [getObj, Sem.run, h]
theorem run_setObj {r : Nat} {o o' : Obj} (h : w.heap[r]? = some o) (hc : ∀ c t f, o ≠ .cells c t f) : (setObj r o').run P w = .ok () { w with heap := w.heap.setIfInBounds r o' } := by
  simp only [setObj, Sem.run, h]
theorem SRel.map_at (h : SRel R P w0 ρ D σ w) {i : Nat} {es : List (AV × AV)} {m : Loc} (hg : σ.get i = some (.map es)) (hm : ρ i = some m) : ∃ c clock, w.heap[m.blk]? = some (.map c clock) ∧ esRel ρ es c.toList :=
  (h.blk i _ m hg hm).2
theorem ok_len_str {x : Operand} {X' : X} {ats : Array TypeId} {t : TypeId} (hx : resX P x = some X') (ht : ats[0]? = some t) (hu : P.underlying t = some .string) :
    OpOk R P (.call { callee := .builtin .len, args := #[x], argTypes := ats }) (.len .str X') := by
  intro w0 w ρ D σ ts ev v es od ty pos af gd h he hv
  simp only [opA] at hv
  have hr := he _ _ hx
  split at hv <;> first | (rename_i hk _; cases hk; done) | skip
  · rename_i s e1
    injection hv with hv; injection hv with h2 h3; subst h2; subst h3
    rw [e1] at hr; simp only [VRel] at hr
    obtain ⟨bs, hc, rfl⟩ := hr
    refine .pure h (cv := goInt bs.size) ?_ (by simp [VRel, goInt])
    simp only [execOp, resolve, Sem.run_bind, Sem.run_pure, Result.andThen_ok, invoke, builtin, Builtin.len_, ht, Array.map_singleton, hc, run_underlying hu]
    simp [run_underlying hu]
  · cases hv
theorem ok_len_slice {x : Operand} {X' : X} {ats : Array TypeId} {t e : TypeId} (hx : resX P x = some X') (ht : ats[0]? = some t) (hu : P.underlying t = some (.slice e)) :
    OpOk R P (.call { callee := .builtin .len, args := #[x], argTypes := ats }) (.len .slice X') := by
  intro w0 w ρ D σ ts ev v es od ty pos af gd h he hv
  simp only [opA] at hv
  have hr := he _ _ hx
  split at hv <;> first | (rename_i hk _; cases hk; done) | skip
  · rename_i o n c sz _ e1
    injection hv with hv; injection hv with h2 h3; subst h2; subst h3
    rw [e1] at hr; simp only [VRel] at hr
    have : ∃ a cc, ev x = .slice a n cc := by
      cases o with
      | none => simp only [SlRel] at hr; obtain ⟨rfl, _, hc⟩ := hr; exact ⟨_, _, hc⟩
      | some p => simp only [SlRel] at hr; obtain ⟨_, _, _, _, hc, _⟩ := hr; exact ⟨_, _, hc⟩
    obtain ⟨a, cc, hc⟩ := this
    refine .pure h (cv := goInt n) ?_ VRel.int
    simp only [execOp, resolve, Sem.run_bind, Sem.run_pure, Result.andThen_ok, invoke, builtin, Builtin.len_, ht, Array.map_singleton, hc]
    simp [run_underlying hu]
  · cases hv
theorem ok_len_map {x : Operand} {X' : X} {ats : Array TypeId} {t k e : TypeId} (hx : resX P x = some X') (ht : ats[0]? = some t) (hu : P.underlying t = some (.map k e)) :
    OpOk R P (.call { callee := .builtin .len, args := #[x], argTypes := ats }) (.len .map X') := by
  intro w0 w ρ D σ ts ev v es od ty pos af gd h he hv
  simp only [opA] at hv
  have hr := he _ _ hx
  split at hv <;> first | (rename_i hk _; cases hk; done) | skip
  · rename_i e1
    injection hv with hv; injection hv with h2 h3; subst h2; subst h3
    rw [e1] at hr; simp only [VRel] at hr
    refine .pure h (cv := goInt 0) ?_ VRel.int
    simp only [execOp, resolve, Sem.run_bind, Sem.run_pure, Result.andThen_ok, invoke, builtin, Builtin.len_, ht, Array.map_singleton, hr]
    simp [run_underlying hu]
  · rename_i i e1
    split at hv
    · rename_i es' hg
      injection hv with hv; injection hv with h2 h3; subst h2; subst h3
      rw [e1] at hr; simp only [VRel] at hr
      obtain ⟨m, hm, hc⟩ := hr
      obtain ⟨c, cl, hh, hes⟩ := h.map_at hg hm
      refine .pure h (cv := goInt c.size) ?_ (by simp [VRel, goInt, hes.length])
      simp only [execOp, resolve, Sem.run_bind, Sem.run_pure, Result.andThen_ok, invoke, builtin, Builtin.len_, ht, Array.map_singleton, hc]
      simp [run_underlying hu, run_getObj hh]
    · cases hv
  · cases hv
theorem ok_lenC {x : Operand} {X' : X} {ats : Array TypeId} {t e : TypeId} {n : Nat} (hx : resX P x = some X') (ht : ats[0]? = some t) (hu : P.underlying t = some (.array n e)) :
    OpOk R P (.call { callee := .builtin .len, args := #[x], argTypes := ats }) (.lenC n) := by
  intro w0 w ρ D σ ts ev v es od ty pos af gd h he hv
  simp only [opA] at hv
  injection hv with hv; injection hv with h2 h3; subst h2; subst h3
  refine .pure h (cv := goInt n) ?_ VRel.int
  simp only [execOp, resolve, Sem.run_bind, Sem.run_pure, Result.andThen_ok, invoke, builtin, Builtin.len_, ht, Array.map_singleton]
  simp [run_underlying hu]
theorem ok_cap {x : Operand} {X' : X} {ats : Array TypeId} {t e : TypeId} (hx : resX P x = some X') (ht : ats[0]? = some t) (hu : P.underlying t = some (.slice e)) :
    OpOk R P (.call { callee := .builtin .cap, args := #[x], argTypes := ats }) (.cap X') := by
  intro w0 w ρ D σ ts ev v es od ty pos af gd h he hv
  simp only [opA] at hv
  have hr := he _ _ hx
  split at hv
  · rename_i o n c sz e1
    injection hv with hv; injection hv with h2 h3; subst h2; subst h3
    rw [e1] at hr; simp only [VRel] at hr
    have : ∃ a, ev x = .slice a n c := by
      cases o with
      | none => simp only [SlRel] at hr; obtain ⟨rfl, h0, hc⟩ := hr; have := h0 c rfl; subst this; exact ⟨_, hc⟩
      | some p => simp only [SlRel] at hr; obtain ⟨_, _, cc, _, hc, _, _, _, _, h0⟩ := hr; have := h0 c rfl; subst this; exact ⟨_, hc⟩
    obtain ⟨a, hc⟩ := this
    refine .pure h (cv := goInt c) ?_ VRel.int
    simp only [execOp, resolve, Sem.run_bind, Sem.run_pure, Result.andThen_ok, invoke, builtin, Builtin.cap_, ht, Array.map_singleton, hc]
    simp [run_underlying hu]
  · cases hv
end Go.Am
namespace Go.Am
open Go.RowKit
variable {R : Code → AC → Prop} {P : Program} {w0 w w' : World} {ρ ρ' : RMap} {D : List Nat × List Nat} {σ : AState} {ts : List AV} {ev : Operand → Value} {v : AV} {es : List Eff}
theorem bytesOf_rel (s : List UInt8) : VRelL ρ (bytesOf s) (s.map fun b => Value.int .u8 b.toNat) := VRelL.map fun _ _ => VRel.int
theorem lenA_ok {x : AV} {c : Value} {n : Nat} (hx : VRel ρ x c) (h : lenA x = some n) : (Builtin.lenOf c).run P w = .ok n w := by
  cases x <;> simp only [lenA, Option.some.injEq, reduceCtorEq] at h
  · simp only [VRel] at hx
    obtain ⟨bs, rfl, rfl⟩ := hx
    subst h
    simp only [Builtin.lenOf, Sem.run_pure]
    congr 1
  · subst h
    rename_i o _ _ _
    simp only [VRel] at hx
    cases o with
    | none => simp only [SlRel] at hx; obtain ⟨rfl, _, rfl⟩ := hx; rfl
    | some p => simp only [SlRel] at hx; obtain ⟨_, _, _, _, rfl, _⟩ := hx; rfl
theorem firstA_ok {x : AV} {c : Value} {sz n m : Nat} {xs : List AV} (h : SRel R P w0 ρ D σ w) (hx : VRel ρ x c) (hm : lenA x = some m) (hn : n ≤ m) (hf : firstA σ.get sz n x = some xs) :
    xs.length = n * sz ∧ ∃ cs : List Value, VRelL ρ xs cs ∧ (Builtin.firstCells sz n c).run P w = .ok cs.toArray w := by
  cases x <;> simp only [lenA, Option.some.injEq, reduceCtorEq] at hm
  · rename_i s
    simp only [VRel] at hx
    obtain ⟨bs, rfl, rfl⟩ := hx
    simp only [firstA] at hf
    split at hf
    · rename_i hc
      injection hf with hf; subst hf
      obtain ⟨rfl, hc⟩ := hc
      refine ⟨by simp [bytesOf] at hc ⊢; omega, _, bytesOf_rel _, ?_⟩
      simp only [Builtin.firstCells, Sem.run_pure]
      congr 1
      apply Array.ext'
      rw [Array.toList_map, ByteArray.data_extract, Array.toList_extract, List.extract_eq_take_drop]
      simp
    · cases hf
  · rename_i o len cap sz'
    subst hm
    simp only [VRel] at hx
    cases o with
    | none =>
      simp only [SlRel] at hx; obtain ⟨rfl, _, rfl⟩ := hx
      simp only [firstA] at hf
      split at hf
      · rename_i h0
        injection hf with hf; subst hf; subst h0
        exact ⟨by simp, [], .mk_nil, rfl⟩
      · cases hf
    | some p =>
      obtain ⟨i, off⟩ := p
      simp only [firstA] at hf
      split at hf
      · rename_i l wr hg
        split at hf
        · rename_i hc
          injection hf with hf; subst hf
          refine ⟨by simp; omega, ?_⟩
          simp only [SlRel] at hx
          obtain ⟨loc, a, ccap, r1, r2, r3, r4, r5, r6, r7⟩ := hx
          subst r2
          by_cases h0 : n = 0
          · subst h0
            exact ⟨[], by simpa using VRelL.mk_nil, by simp [Builtin.firstCells, loadCells, loadCellsFrom]⟩
          · have hcc : ccap ≠ 0 := by omega
            obtain ⟨q1, q2⟩ := r4.resolve_left hcc
            have hb := h.blk i _ loc hg r1
            obtain ⟨cs, hlen, hv, hcell⟩ := BRel.read hb hc
            refine ⟨cs, hv, ?_⟩
            simp only [Builtin.firstCells]
            rw [← hlen]
            exact run_loadAt r3 (fun j v e => by rw [q1, q2]; exact hcell j v e)
        · cases hf
      · cases hf
theorem strOrSlice_ok {o : Option TypeId} (h : strOrSlice P o = true) : ∃ t u, o = some t ∧ P.underlying t = some u ∧ (u = .string ∨ ∃ e, u = .slice e) := by
  unfold strOrSlice at h
  split at h
  · rename_i e
    rw [Option.bind_eq_some_iff] at e
    obtain ⟨t, ht, hu⟩ := e
    exact ⟨t, _, ht, hu, .inl rfl⟩
  · rename_i e
    rw [Option.bind_eq_some_iff] at e
    obtain ⟨t, ht, hu⟩ := e
    exact ⟨t, _, ht, hu, .inr ⟨_, rfl⟩⟩
  · cases h
theorem run_append_fits {ats : Array TypeId} {t e : TypeId} {i : TypeInfo} {sLen sCap n : Nat} {base : Option Addr} {x : Value} {cs : List Value} (ht : ats[0]? = some t) (hu : P.underlying t = some (.slice e)) (h1 : strOrSlice P ats[1]? = true)
    (hi : P.info? e = some i) (hx : (Builtin.lenOf x).run P w = .ok n w) (hf : (Builtin.firstCells i.size n x).run P w = .ok cs.toArray w) (hn : sLen + n ≤ sCap) (ty : TypeId) :
    (Builtin.append_ ats ty #[.slice base sLen sCap, x]).run P w = ((match base with | some a => storeCells (a.add (sLen * i.size)) cs | none => Pure.pure () : Sem Unit).run P w).andThen fun _ w' => .ok (.slice base (sLen + n) sCap) w' := by
  obtain ⟨t1, u, ht1, hu1, hk⟩ := strOrSlice_ok h1
  rcases hk with rfl | ⟨e1, rfl⟩ <;> cases base <;> simp [Builtin.append_, ht, ht1, run_underlying hu, run_underlying hu1, sizeOf, typeInfo, hi, hx, hf, hn]
theorem run_append_grows {ats : Array TypeId} {t e : TypeId} {i : TypeInfo} {z : Value} {sLen sCap n : Nat} {base : Option Addr} {x : Value} {cs os : List Value} (ht : ats[0]? = some t) (hu : P.underlying t = some (.slice e)) (h1 : strOrSlice P ats[1]? = true)
    (hi : P.info? e = some i) (hz : i.zero = some z) (hx : (Builtin.lenOf x).run P w = .ok n w) (hf : (Builtin.firstCells i.size n x).run P w.drew = .ok cs.toArray w.drew)
    (ho : (Builtin.firstCells i.size sLen (.slice base sLen sCap)).run P w.drew = .ok os.toArray w.drew) (hn : ¬ sLen + n ≤ sCap) (hb : 0 < i.bytes) (hfit : Builtin.nextslicecap (sLen + n) sCap * i.bytes ≤ 281474976710656) (ty : TypeId) :
    (Builtin.append_ ats ty #[.slice base sLen sCap, x]).run P w =
      .ok (.slice (some ⟨w.heap.size, 0, none⟩) (sLen + n) (grownCap w (sLen + n) sCap e)) (w.drew.alloc (.cells ((os ++ cs).toArray ++ Builtin.zeroCells z.cells (grownCap w (sLen + n) sCap e - (sLen + n))) e)) := by
  obtain ⟨t1, u, ht1, hu1, hk⟩ := strOrSlice_ok h1
  have h48' : ¬ (281474976710656 < Builtin.nextslicecap (sLen + n) sCap * i.bytes) := by omega
  have hb' : ¬ i.bytes = 0 := by omega
  rcases hk with rfl | ⟨e1, rfl⟩ <;> simp [Builtin.append_, ht, ht1, run_underlying hu, run_underlying hu1, sizeOf, typeInfo, zeroValue, hi, hz, hx, hf, ho, hn, h48', hb', Question.forced, newRow, grownCap] <;> (congr 2; apply Array.ext'; simp)
theorem SRel.drew (h : SRel R P w0 ρ D σ w) : SRel R P w0 ρ D σ w.drew := h.garbage ((Below.refl _ _).drew)
theorem grows_fit {need cap bytes : Nat} (h : grows need bytes = true) (hc : cap < need) : 0 < bytes ∧ Builtin.nextslicecap need cap * bytes ≤ 281474976710656 := by
  unfold grows at h
  obtain ⟨h1, h2⟩ := of_decide_eq_true h
  refine ⟨h1, Nat.le_trans (Nat.mul_le_mul_right _ ?_) h2⟩
  have := nextslicecap_le hc
  omega
theorem SRel.grown (h : SRel R P w0 ρ D σ w) {need ccap sz : Nat} {e : TypeId} {zs : Array Value} {xs : List AV} {cs : List Value} (hr : VRelL ρ xs cs) (hl : xs.length = need * sz) (hz : zs.size = sz) :
    ∃ ρ', RX σ.next ρ ρ' ∧ VRel ρ' (.slice (some (σ.next, 0)) need none sz) (.slice (some ⟨w.heap.size, 0, none⟩) need (grownCap w need ccap e)) ∧
      SRel R P w0 ρ' D (σ.push (.cells xs true)) (w.drew.alloc (.cells (cs.toArray ++ Builtin.zeroCells zs (grownCap w need ccap e - need)) e)) := by
  have hge := grownCap_ge w need ccap e
  have hcs : cs.length = need * sz := by rw [← hr.length, hl]
  have hsize : (cs.toArray ++ Builtin.zeroCells zs (grownCap w need ccap e - need)).size = grownCap w need ccap e * sz := by
    rw [Array.size_append, size_zeroCells, hz, List.size_toArray, hcs, ← Nat.add_mul]; congr 1; omega
  have hS := h.drew.newRow (t := e) (c := cs.toArray ++ Builtin.zeroCells zs (grownCap w need ccap e - need)) (l := xs) (by
    rw [Array.toList_append, hl, ← hcs, List.take_append_of_le_length (by simp)]; simpa using hr) (by rw [hsize, hl]; exact Nat.mul_le_mul_right _ hge)
  refine ⟨_, h.rx _, ?_, hS⟩
  simp only [VRel, SlRel]
  refine ⟨_, _, _, upd_same _ _ _, rfl, rfl, .inr ⟨rfl, rfl⟩, hge, .inr ?_, fun c e => by cases e⟩
  simp only [Nat.zero_add, hsize]; exact Nat.le_refl _
theorem grows_need {need bytes : Nat} (h : grows need bytes = true) : need ≤ 281474976710656 := by
  unfold grows at h
  obtain ⟨h1, h2⟩ := of_decide_eq_true h
  have := Nat.le_mul_of_pos_right (2 * need + 192) h1
  omega
theorem append_core {ats : Array TypeId} {e : TypeId} {i : TypeInfo} {z : Value} {sv v : AV} {cv xv : Value} {n : Nat} {xs : List AV} {cs csD : List Value} {es : List Eff} (hzs : z.cells.size = i.size) (h : SRel R P w0 ρ D σ w) (hsr : VRel ρ sv cv) (hcs : VRelL ρ xs cs) (hcsD : VRelL ρ xs csD) (hxl : xs.length = n * i.size)
    (hfits : ∀ (base : Option Addr) (sLen sCap : Nat), sLen + n ≤ sCap → ∀ ty, (Builtin.append_ ats ty #[.slice base sLen sCap, xv]).run P w = ((match base with | some a => storeCells (a.add (sLen * i.size)) cs | none => Pure.pure () : Sem Unit).run P w).andThen fun _ w' => .ok (.slice base (sLen + n) sCap) w')
    (hgrows : ∀ (base : Option Addr) (sLen sCap : Nat) (os : List Value), (Builtin.firstCells i.size sLen (.slice base sLen sCap)).run P w.drew = .ok os.toArray w.drew → ¬ sLen + n ≤ sCap → 0 < i.bytes → sLen + n ≤ 281474976710656 → Builtin.nextslicecap (sLen + n) sCap * i.bytes ≤ 281474976710656 → ∀ ty,
      (Builtin.append_ ats ty #[.slice base sLen sCap, xv]).run P w = .ok (.slice (some ⟨w.heap.size, 0, none⟩) (sLen + n) (grownCap w (sLen + n) sCap e)) (w.drew.alloc (.cells ((os ++ csD).toArray ++ Builtin.zeroCells z.cells (grownCap w (sLen + n) sCap e - (sLen + n))) e)))
    (hv : appendA σ.get σ.next i.size i.bytes sv n xs = some (v, es)) :
    ∃ ρ' cv' w', RX σ.next ρ ρ' ∧ (∀ ty, (Builtin.append_ ats ty #[cv, xv]).run P w = .ok cv' w') ∧ VRel ρ' v cv' ∧ SRel R P w0 ρ' D (σ.app es) w' := by
  unfold appendA at hv
  split at hv
  case h_2 => cases hv
  rename_i o sLen cap sz'
  split at hv
  case isFalse => cases hv
  rename_i hsz
  obtain ⟨hsz, hpos⟩ := hsz
  split at hv
  ·
    rename_i hn0
    subst hn0
    injection hv with hv; injection hv with h2 h3; subst h2; subst h3
    have hcs0 : cs = [] := by
      have := hcs.length; rw [hxl] at this
      simpa using this.symm
    subst hcs0
    obtain ⟨a, ccap, hc, hle⟩ : ∃ a ccap, cv = .slice a sLen ccap ∧ sLen ≤ ccap := by
      simp only [VRel] at hsr
      cases o with
      | none => simp only [SlRel] at hsr; obtain ⟨rfl, _, hc⟩ := hsr; exact ⟨_, _, hc, Nat.le_refl _⟩
      | some p => simp only [SlRel] at hsr; obtain ⟨_, _, _, _, hc, _, _, hle, _⟩ := hsr; exact ⟨_, _, hc, hle⟩
    refine ⟨ρ, cv, w, RX.refl _ _, fun ty' => ?_, hsr, h⟩
    rw [hc, hfits _ _ _ (by omega) ty']
    cases a <;> simp [storeCells]
  · rename_i hn0
    split at hv
    ·
      split at hv
      case isFalse => cases hv
      rename_i hc
      obtain ⟨rfl, hg⟩ := hc
      injection hv with hv; injection hv with h2 h3; subst h2; subst h3
      simp only [VRel, SlRel] at hsr
      obtain ⟨_, _, hc⟩ := hsr
      obtain ⟨hb, hfit⟩ := grows_fit hg (show 0 < n by omega)
      obtain ⟨ρ', hle, hv', hS⟩ := h.grown (ccap := 0) (e := e) hcsD hxl hzs
      refine ⟨ρ', _, _, hle, fun ty' => ?_, hv', hS⟩
      rw [hc, hgrows _ _ _ [] (by simp [Builtin.firstCells]) (by omega) hb (by simpa using grows_need hg) (by simpa using hfit) ty']
      simp
    · rename_i i' off
      split at hv
      case h_2 => cases hv
      rename_i l wr hg
      obtain rfl : sz' = i.size := by simpa using hsz
      simp only [VRel, SlRel] at hsr
      obtain ⟨loc, a, ccap, r1, r2, r3, r4, r5, r6, r7⟩ := hsr
      have hb := h.blk _ _ _ hg r1
      split at hv
      · rename_i c
        have hcc := r7 c rfl; subst hcc
        split at hv
        ·
          rename_i hroom
          split at hv
          case isFalse => cases hv
          rename_i hc
          obtain ⟨rfl, hc2, hc3⟩ := hc
          injection hv with hv; injection hv with h2 h3; subst h2; subst h3
          have hc0 : ccap ≠ 0 := by omega
          obtain ⟨q1, q2⟩ := r4.resolve_left hc0
          obtain ⟨ab, ao, az⟩ := a
          simp only at r3 q1 q2; subst r3; subst q1; subst q2
          have hm : sLen * i.size + n * i.size ≤ ccap * i.size := by rw [← Nat.add_mul]; exact Nat.mul_le_mul_right _ hroom
          obtain ⟨w', hrun, hS⟩ := h.store (P := P) hg r1 (o := off + sLen * i.size) (by rw [hxl]; omega) hcs hc3
          refine ⟨ρ, .slice (some ⟨loc.blk, loc.base + off, none⟩) (sLen + n) ccap, w', RX.refl _ _, fun ty' => ?_, ?_, hS⟩
          · rw [r2, hfits _ _ _ hroom ty']
            simp only [add_none]
            rw [← Nat.add_assoc] at hrun
            simp [hrun]
          · simp only [VRel, SlRel]
            exact ⟨loc, _, _, r1, rfl, rfl, .inr ⟨rfl, rfl⟩, hroom, r6, fun c e => Option.some.inj e⟩
        ·
          rename_i hroom
          split at hv
          case isFalse => cases hv
          rename_i hc
          obtain ⟨hc1, hc2⟩ := hc
          injection hv with hv; injection hv with h2 h3; subst h2; subst h3
          obtain ⟨hbp, hfit⟩ := grows_fit hc2 (show ccap < sLen + n by omega)
          obtain ⟨hol, osD, hosD, hfirstO⟩ := firstA_ok (sz := i.size) (n := sLen) h.drew (x := .slice (some (i', off)) sLen (some ccap) i.size) (c := cv) (by simp only [VRel, SlRel]; exact ⟨loc, a, ccap, r1, r2, r3, r4, r5, r6, r7⟩) rfl (Nat.le_refl _) (by simp only [firstA, hg]; rw [if_pos hc1])
          obtain ⟨ρ', hle, hv', hS⟩ := h.grown (ccap := ccap) (e := e) (need := sLen + n) (sz := i.size) (hosD.append hcsD) (by rw [List.length_append, hol, hxl, Nat.add_mul]) hzs
          refine ⟨ρ', _, _, hle, fun ty' => ?_, hv', hS⟩
          rw [r2, hgrows _ _ _ osD (by rw [← r2]; exact hfirstO) hroom hbp (grows_need (by assumption)) hfit ty']
      ·
        split at hv
        case isFalse => cases hv
        rename_i hc
        obtain ⟨rfl, hc2, hc3, hc4⟩ := hc
        injection hv with hv; injection hv with h2 h3; subst h2; subst h3
        by_cases hroom : sLen + n ≤ ccap
        · have hc0 : ccap ≠ 0 := by omega
          obtain ⟨q1, q2⟩ := r4.resolve_left hc0
          have hext := r6.resolve_left hc0
          obtain ⟨ab, ao, az⟩ := a
          simp only at r3 q1 q2; subst r3; subst q1; subst q2
          have hm : sLen * i.size + n * i.size ≤ ccap * i.size := by rw [← Nat.add_mul]; exact Nat.mul_le_mul_right _ hroom
          have hcl : cs.length = n * i.size := by rw [← hcs.length, hxl]
          have hnpos : 0 < n * i.size := Nat.mul_pos (by omega) hpos
          have hw3 := (hb.2.2 rfl).2
          have hcells : ∃ c t f, w.heap[loc.blk]? = some (.cells c t f) := by
            obtain ⟨y, hy⟩ := (hw3 off (by omega)).1
            exact isCells_of_cell hy
          obtain ⟨w', hrun, hW, hcell⟩ := run_storeCells (P := P) loc.blk (loc.base + (off + sLen * i.size)) cs 0 w hcells (fun k hk => by
            have := hw3 (off + sLen * i.size + k) (by omega)
            rwa [← Nat.add_assoc] at this) (fun u hum => by
            obtain ⟨k, hk, rfl⟩ := List.getElem_of_mem hum
            have hk' : k < xs.length := by rw [hxl]; omega
            obtain ⟨y, hy, hry⟩ := hcs.get (List.getElem?_eq_getElem hk')
            rw [List.getElem?_eq_getElem hk] at hy; cases hy
            exact hry.one (List.all_eq_true.1 hc3 _ (List.getElem_mem hk')))
          simp only [Nat.add_zero] at hW hcell
          have hS := h.move (l' := (l.drop off).take (sLen * i.size) ++ xs) hg r1 (o := off) hW (by omega) (by omega) (by omega) (by
            refine ⟨?_, fun k y e => ?_, fun _ => ⟨(hb.2.2 rfl).1, fun k hk => ?_⟩⟩
            · simp only [List.length_append, List.length_take, List.length_drop, hxl]; omega
            · have htl : ((l.drop off).take (sLen * i.size)).length = sLen * i.size := by simp; omega
              by_cases hlt : k < sLen * i.size
              · rw [List.getElem?_append_left (by rw [htl]; exact hlt), List.getElem?_take, if_pos hlt, List.getElem?_drop] at e
                obtain ⟨u, hu', hv'⟩ := hb.2.1 _ _ e
                refine ⟨u, ?_, VRel.mono (h.le_next _) _ _ hv'⟩
                simp only
                rw [hW.cell _ (by omega), Nat.add_assoc]; exact hu'
              · rw [List.getElem?_append_right (by rw [htl]; omega), htl] at e
                obtain ⟨u, hu', hv'⟩ := hcs.get e
                refine ⟨u, ?_, VRel.mono (h.le_next _) _ _ hv'⟩
                have := hcell _ _ hu'
                simp only
                rwa [show loc.base + (off + sLen * i.size) + (k - sLen * i.size) = loc.base + off + k by omega] at this
            · simp only at hk ⊢
              have hold := hw3 (off + k) (by omega)
              rw [← Nat.add_assoc] at hold
              refine ⟨?_, by rw [hW.frozen]; exact hold.2⟩
              by_cases hin : loc.base + (off + sLen * i.size) ≤ loc.base + off + k ∧ loc.base + off + k < loc.base + (off + sLen * i.size) + cs.length
              · have hk2 : loc.base + off + k - (loc.base + (off + sLen * i.size)) < cs.length := by omega
                have := hcell _ _ (List.getElem?_eq_getElem hk2)
                rw [show loc.base + (off + sLen * i.size) + (loc.base + off + k - (loc.base + (off + sLen * i.size))) = loc.base + off + k by omega] at this
                exact ⟨_, this⟩
              · rw [hW.cell _ (by omega)]; exact hold.1)
          refine ⟨_, .slice (some ⟨loc.blk, loc.base + off, none⟩) (sLen + n) ccap, w', h.rx _, fun ty' => ?_, ?_, hS⟩
          · rw [r2, hfits _ _ _ hroom ty']
            simp only [add_none]
            rw [Nat.add_assoc]
            simp [hrun]
          · simp only [VRel, SlRel]
            exact ⟨_, _, _, upd_same _ _ _, rfl, rfl, .inr ⟨rfl, rfl⟩, hroom, .inr (by simp only; omega), fun c e => by cases e⟩
        · obtain ⟨hbp, hfit⟩ := grows_fit hc4 (show ccap < sLen + n by omega)
          obtain ⟨hol, osD, hosD, hfirstO⟩ := firstA_ok (sz := i.size) (n := sLen) (xs := (l.drop off).take (sLen * i.size)) h.drew (x := .slice (some (i', off)) sLen none i.size) (c := cv) (by simp only [VRel, SlRel]; exact ⟨loc, a, ccap, r1, r2, r3, r4, r5, r6, r7⟩) rfl (Nat.le_refl _) (by
            simp only [firstA, hg]; rw [if_pos (by omega)])
          obtain ⟨ρ', hle, hv', hS⟩ := (h.kill i').grown (ccap := ccap) (e := e) (need := sLen + n) (sz := i.size) (hosD.append hcsD) (by rw [List.length_append, hol, hxl, Nat.add_mul]) hzs
          refine ⟨ρ', _, _, hle, fun ty' => ?_, hv', hS⟩
          rw [r2, hgrows _ _ _ osD (by rw [← r2]; exact hfirstO) hroom hbp (grows_need (by assumption)) hfit ty']
theorem ok_append {s x : Operand} {S' X' : X} {ats : Array TypeId} {t e : TypeId} {i : TypeInfo} {z : Value} (hs : resX P s = some S') (hx : resX P x = some X') (ht : ats[0]? = some t) (hu : P.underlying t = some (.slice e)) (h1 : strOrSlice P ats[1]? = true)
    (hi : P.info? e = some i) (hz : i.zero = some z) (hzs : z.cells.size = i.size) : OpOk R P (.call { callee := .builtin .append, args := #[s, x], argTypes := ats }) (.append i.size i.bytes S' X') := by
  intro w0 w ρ D σ ts ev v es od ty pos af gd h he hv
  simp only [opA] at hv
  have hxr := he _ _ hx
  split at hv
  case h_2 => cases hv
  rename_i n hn
  split at hv
  case h_2 => cases hv
  rename_i xs hxs
  have hlen := lenA_ok (P := P) (w := w) hxr hn
  obtain ⟨hxl, cs, hcs, hfirst⟩ := firstA_ok h hxr hn (Nat.le_refl _) hxs
  obtain ⟨_, csD, hcsD, hfd⟩ := firstA_ok h.drew hxr hn (Nat.le_refl _) hxs
  obtain ⟨ρ', cv', w', h1', h2, h3, h4⟩ := append_core (ats := ats) (e := e) (xv := ev x) hzs h (he _ _ hs) hcs hcsD hxl (fun base sLen sCap hr ty => run_append_fits ht hu h1 hi hlen hfirst hr ty)
    (fun base sLen sCap os ho hr hb _ hf ty => run_append_grows ht hu h1 hi hz hlen hfd ho hr hb hf ty) hv
  refine ⟨ρ', cv', w', .value cv', h1', ?_, rfl, h3, h4⟩
  have hm : (#[s, x] : Array Operand).map ev = #[ev s, ev x] := by simp
  simp only [execOp, resolve, Sem.run_bind, Sem.run_pure, Result.andThen_ok, invoke, builtin, hm, h2]
theorem intT_ok {o : Option TypeId} (h : intT P o = true) : ∃ t k, o = some t ∧ P.underlying t = some (.int k) := by
  unfold intT at h
  split at h
  · rename_i k e
    rw [Option.bind_eq_some_iff] at e
    obtain ⟨t, ht, hu⟩ := e
    exact ⟨t, _, ht, hu⟩
  · cases h
theorem ok_appendZ {s x : Operand} {S' X' : X} {ats : Array TypeId} {t e : TypeId} {i : TypeInfo} {z : Value} {zc : List AV} (hs : resX P s = some S') (hx : resX P x = some X') (ht : ats[0]? = some t) (hu : P.underlying t = some (.slice e)) (h1 : intT P ats[1]? = true)
    (hi : P.info? e = some i) (hz : i.zero = some z) (hzs : z.cells.size = i.size) (hzc : absL z.cells.toList = some zc) : OpOk R P (.call { callee := .builtin .append, args := #[s, x], argTypes := ats }) (.appendZ i.size i.bytes zc S' X') := by
  intro w0 w ρ D σ ts ev v es od ty pos af gd h he hv
  simp only [opA] at hv
  have hxr := he _ _ hx
  split at hv
  case h_2 => cases hv
  rename_i n hn
  split at hv
  case isFalse => cases hv
  rename_i hc
  obtain ⟨hn0', hc1, hc2, hc3⟩ := hc
  obtain ⟨t1, k1, ht1, hu1⟩ := intT_ok h1
  obtain ⟨k, hxe⟩ : ∃ k, ev x = .int k (n : Int) := by
    cases hX : X'.ev ts with
    | int k m =>
      rw [hX] at hn hxr
      cases m with
      | ofNat m => simp only [natOf, Option.some.injEq] at hn; subst hn; exact ⟨k, by simpa [VRel] using hxr⟩
      | negSucc m => simp [natOf] at hn
    | _ => simp [hX, natOf] at hn
  have hnb : n ≤ 281474976710656 := Nat.le_trans (Nat.le_mul_of_pos_right _ hc2) hc3
  have hwrap : IntKind.i64.wrap (n : Int) = n := IntWalk.i64_in _ ⟨by first | omega | simp, by first | omega | (simp; omega)⟩
  have hzr := absL_rel (ρ := ρ) hzc
  have hpos : 0 < i.size := by
    unfold appendA at hv
    split at hv
    · split at hv
      · rename_i hcc; exact hcc.2
      · cases hv
    · cases hv
  have hcs : VRelL ρ (List.replicate n zc).flatten (Builtin.zeroCells z.cells n).toList := by
    have := zeros_rel hzr (by omega) n
    exact this
  have hxl : (List.replicate n zc).flatten.length = n * i.size := by simp [hc1]
  have hle1 : ¬ ((n : Int) < 0) := by omega
  have hle2 : ¬ ((n : Int) * (i.bytes : Int) > 281474976710656) := by
    have : ((n * i.bytes : Nat) : Int) ≤ 281474976710656 := by omega
    rw [Int.natCast_mul] at this; omega
  have hasInt : ∀ w : World, (asInt (.int k (n : Int))).run P w = .ok (n : Int) w := fun w => rfl
  have hzv : ∀ w : World, (zeroValue e).run P w = .ok z w := fun w => by simp [zeroValue, run_info hi, hz]
  have hs0 : ¬ i.size = 0 := by omega
  have hns : ¬ n * i.size = 0 := fun e => by
    rcases Nat.mul_eq_zero.1 e with q | q <;> omega
  obtain ⟨ρ', cv', w', h1', h2, h3, h4⟩ := append_core (ats := ats) (e := e) (z := z) (xv := ev x) (cs := (Builtin.zeroCells z.cells n).toList) (csD := (Builtin.zeroCells z.cells n).toList) hzs h (he _ _ hs) hcs hcs hxl (fun base sLen sCap hr ty => by
      rw [hxe]
      have hn0 : ¬ n = 0 := by omega
      cases base <;> simp [Builtin.append_, ht, ht1, run_underlying hu, run_underlying hu1, sizeOf, typeInfo, hi, hasInt, hwrap, hle1, hle2, hr, hn0, hns, hzv])
    (fun base sLen sCap os ho hr hb hne hf ty => by
      have hf' : ¬ (281474976710656 < Builtin.nextslicecap (sLen + n) sCap * i.bytes) := by omega
      have hbig : ¬ (9223372036854775807 : Int) < (sLen : Int) + (n : Int) := by omega
      rw [hxe]
      have hn0 : ¬ n = 0 := by omega
      simp [Builtin.append_, ht, ht1, run_underlying hu, run_underlying hu1, sizeOf, typeInfo, hi, hasInt, hwrap, hle1, hle2, hr, hn0, hns, hzv, ho, hf', hbig, Question.forced, newRow, grownCap]
      congr 2
      apply Array.ext'
      simp)
    hv
  refine ⟨ρ', cv', w', .value cv', h1', ?_, rfl, h3, h4⟩
  have hm : (#[s, x] : Array Operand).map ev = #[ev s, ev x] := by simp
  simp only [execOp, resolve, Sem.run_bind, Sem.run_pure, Result.andThen_ok, invoke, builtin, hm, h2]
end Go.Am
