/-
  A PART of the proof: AmEval, AmPrim, AmLib, AmData, AmStep, AmSlices, DoPlain, DoBuilt, AmForm, ApNum.
-/
import Derived.Test.YtndfemigjgpdlaaGreatDoorT01
import Derived.Laws.Externs
import Derived.Lib.Join
import Derived.Lib.Bytealg
import Derived.Laws.BitsLemmas
import Derived.Test.YtndfemigjgpdlaaGreatDoorChecked
set_option linter.unusedSimpArgs false
set_option linter.unusedVariables false
namespace Go.Am
open Go.RowKit
inductive Tr (α : Type) where
  | nil
  | node (v : Option α) (l r : Tr α)
namespace Tr
variable {α : Type}
def get : Tr α → Nat → Option α
  | .nil, _ => none
  | .node v l r, k => match k with
    | 0 => v
    | k + 1 => bif Nat.beq (k % 2) 0 then l.get (k / 2) else r.get (k / 2)
def set : Nat → Tr α → Nat → Option α → Option (Tr α)
  | 0, _, _, _ => none
  | f + 1, t, k, x =>
    match t with
    | .nil => match k with
      | 0 => some (.node x .nil .nil)
      | k + 1 => bif Nat.beq (k % 2) 0 then (match set f .nil (k / 2) x with | some l => some (.node none l .nil) | none => none) else (match set f .nil (k / 2) x with | some r => some (.node none .nil r) | none => none)
    | .node v l r => match k with
      | 0 => some (.node x l r)
      | k + 1 => bif Nat.beq (k % 2) 0 then (match set f l (k / 2) x with | some l => some (.node v l r) | none => none) else (match set f r (k / 2) x with | some r => some (.node v l r) | none => none)
theorem get_nil (k : Nat) : (nil : Tr α).get k = none := rfl
theorem get_zero (v : Option α) (l r : Tr α) : (node v l r).get 0 = v := rfl
theorem get_succ (v : Option α) (l r : Tr α) (k : Nat) : (node v l r).get (k + 1) = if k % 2 = 0 then l.get (k / 2) else r.get (k / 2) := by
  show (bif Nat.beq (k % 2) 0 then l.get (k / 2) else r.get (k / 2)) = _
  by_cases h : k % 2 = 0
  · rw [if_pos h, h]; rfl
  · rw [if_neg h]
    have : Nat.beq (k % 2) 0 = false := by
      cases e : Nat.beq (k % 2) 0
      · rfl
      · exact absurd (Nat.eq_of_beq_eq_true e) h
    rw [this]; rfl
theorem get_set : ∀ (f : Nat) (t : Tr α) (k : Nat) (x : Option α) (t' : Tr α), set f t k x = some t' → ∀ j, t'.get j = if j = k then x else t.get j
  | 0, t, k, x, t', h, j => by simp [set] at h
  | f + 1, t, k, x, t', h, j => by
    have halves : ∀ {a b : Nat}, a % 2 = b % 2 → (a / 2 = b / 2 ↔ a = b) := fun {a b} h => by omega
    simp only [set] at h
    cases t with
    | nil =>
      simp only at h
      cases k with
      | zero =>
        simp only [Option.some.injEq] at h; subst h
        cases j with
        | zero => rfl
        | succ j => rw [get_succ, if_neg (show ¬ (j + 1 = 0) by omega)]; split <;> rfl
      | succ k =>
        simp only at h
        by_cases hk : k % 2 = 0
        · have hb : Nat.beq (k % 2) 0 = true := by rw [hk]; rfl
          simp only [hb, cond_true] at h
          split at h
          case h_2 => cases h
          rename_i l hl
          injection h with h; subst h
          have ih := get_set f _ _ _ _ hl
          cases j with
          | zero => rw [get_zero, if_neg (by omega)]; rfl
          | succ j =>
            rw [get_succ]
            by_cases hj : j % 2 = 0
            · rw [if_pos hj, ih, get_nil, get_nil]
              have := halves (hj.trans hk.symm)
              by_cases e : j = k
              · simp [e]
              · rw [if_neg (fun h => e (this.1 h)), if_neg (by omega)]
            · rw [if_neg hj, if_neg (by intro e; injection e with e; subst e; exact hj hk)]; rfl
        · have hb : Nat.beq (k % 2) 0 = false := by
            cases e : Nat.beq (k % 2) 0
            · rfl
            · exact absurd (Nat.eq_of_beq_eq_true e) hk
          simp only [hb, cond_false] at h
          split at h
          case h_2 => cases h
          rename_i l hl
          injection h with h; subst h
          have ih := get_set f _ _ _ _ hl
          cases j with
          | zero => rw [get_zero, if_neg (by omega)]; rfl
          | succ j =>
            rw [get_succ]
            by_cases hj : j % 2 = 0
            · rw [if_pos hj, if_neg (by intro e; injection e with e; subst e; exact hk hj)]; rfl
            · rw [if_neg hj, ih, get_nil, get_nil]
              have := halves (a := j) (b := k) (by omega)
              by_cases e : j = k
              · simp [e]
              · rw [if_neg (fun h => e (this.1 h)), if_neg (by omega)]
    | node v l r =>
      simp only at h
      cases k with
      | zero =>
        simp only [Option.some.injEq] at h; subst h
        cases j with
        | zero => rfl
        | succ j => rw [get_succ, get_succ, if_neg (show ¬ (j + 1 = 0) by omega)]
      | succ k =>
        simp only at h
        by_cases hk : k % 2 = 0
        · have hb : Nat.beq (k % 2) 0 = true := by rw [hk]; rfl
          simp only [hb, cond_true] at h
          split at h
          case h_2 => cases h
          rename_i l' hl
          injection h with h; subst h
          have ih := get_set f _ _ _ _ hl
          cases j with
          | zero => rw [get_zero, if_neg (by omega)]; rfl
          | succ j =>
            rw [get_succ, get_succ]
            by_cases hj : j % 2 = 0
            · rw [if_pos hj, if_pos hj, ih]
              have := halves (hj.trans hk.symm)
              by_cases e : j = k
              · simp [e]
              · rw [if_neg (fun h => e (this.1 h)), if_neg (by omega)]
            · rw [if_neg hj, if_neg hj, if_neg (by intro e; injection e with e; subst e; exact hj hk)]
        · have hb : Nat.beq (k % 2) 0 = false := by
            cases e : Nat.beq (k % 2) 0
            · rfl
            · exact absurd (Nat.eq_of_beq_eq_true e) hk
          simp only [hb, cond_false] at h
          split at h
          case h_2 => cases h
          rename_i r' hl
          injection h with h; subst h
          have ih := get_set f _ _ _ _ hl
          cases j with
          | zero => rw [get_zero, if_neg (by omega)]; rfl
          | succ j =>
            rw [get_succ, get_succ]
            by_cases hj : j % 2 = 0
            · rw [if_pos hj, if_pos hj, if_neg (by intro e; injection e with e; subst e; exact hk hj)]
            · rw [if_neg hj, if_neg hj, ih]
              have := halves (a := j) (b := k) (by omega)
              by_cases e : j = k
              · simp [e]
              · rw [if_neg (fun h => e (this.1 h)), if_neg (by omega)]
end Tr
section force
variable {R : Type}
def forceN (n : Nat) (k : Nat → R) : R := match n with
  | 0 => k 0
  | m + 1 => k (Nat.succ m)
def forceI (n : Int) (k : Int → R) : R := match n with
  | .ofNat m => forceN m fun m => k (.ofNat m)
  | .negSucc m => forceN m fun m => k (.negSucc m)
def forceS : List UInt8 → (List UInt8 → R) → R
  | [], k => k []
  | b :: r, k => forceN b.toNat fun n => forceS r fun r => k (UInt8.ofNat n :: r)
def forceO (o : Option Nat) (k : Option Nat → R) : R := match o with
  | none => k none
  | some n => forceN n fun n => k (some n)
def forceP (o : Option (Nat × Nat)) (k : Option (Nat × Nat) → R) : R := match o with
  | none => k none
  | some (i, j) => forceN i fun i => forceN j fun j => k (some (i, j))
def forceL : List AV → (List AV → R) → R
  | [], k => k []
  | x :: r, k => forceL r fun r => k (x :: r)
def forceV (v : AV) (k : AV → R) : R := match v with
  | .int kd n => forceI n fun n => k (.int kd n)
  | .bool b => match b with
    | true => k (.bool true)
    | false => k (.bool false)
  | .str s => forceS s fun s => k (.str s)
  | .ptr o => forceP o fun o => k (.ptr o)
  | .slice o l c s => forceP o fun o => forceN l fun l => forceO c fun c => forceN s fun s => k (.slice o l c s)
  | .map o => forceO o fun o => k (.map o)
  | .agg l => forceL l fun l => k (.agg l)
  | .tuple l => forceL l fun l => k (.tuple l)
  | v => k v
def forceA : List AV → (List AV → R) → R
  | [], k => k []
  | x :: r, k => forceV x fun x => forceA r fun r => k (x :: r)
def forceM : List (AV × AV) → (List (AV × AV) → R) → R
  | [], k => k []
  | (x, y) :: r, k => forceV x fun x => forceV y fun y => forceM r fun r => k ((x, y) :: r)
def forceB (b : ABlk) (k : ABlk → R) : R := match b with
  | .cells l w => forceL l fun l => k (.cells l w)
  | .map es => forceM es fun es => k (.map es)
  | .iter s n => forceN n fun n => k (.iter s n)
  | b => k b
def forceE : List Eff → (List Eff → R) → R
  | [], k => k []
  | .push b :: r, k => forceB b fun b => forceE r fun r => k (.push b :: r)
  | .set i b :: r, k => forceN i fun i => forceB b fun b => forceE r fun r => k (.set i b :: r)
  | .kill i :: r, k => forceN i fun i => forceE r fun r => k (.kill i :: r)
theorem forceN_eq (n : Nat) (k : Nat → R) : forceN n k = k n := by cases n <;> rfl
theorem forceI_eq (n : Int) (k : Int → R) : forceI n k = k n := by cases n <;> simp only [forceI, forceN_eq]
theorem forceS_eq : ∀ (s : List UInt8) (k : List UInt8 → R), forceS s k = k s
  | [], k => rfl
  | b :: r, k => by simp only [forceS, forceN_eq, forceS_eq r]; rw [UInt8.ofNat_toNat]
theorem forceO_eq (o : Option Nat) (k : Option Nat → R) : forceO o k = k o := by cases o <;> simp only [forceO, forceN_eq]
theorem forceP_eq (o : Option (Nat × Nat)) (k : Option (Nat × Nat) → R) : forceP o k = k o := by
  cases o with
  | none => rfl
  | some p => obtain ⟨i, j⟩ := p; simp only [forceP, forceN_eq]
theorem forceL_eq : ∀ (l : List AV) (k : List AV → R), forceL l k = k l
  | [], k => rfl
  | x :: r, k => by simp only [forceL, forceL_eq r]
theorem forceV_eq (v : AV) (k : AV → R) : forceV v k = k v := by
  cases v with
  | bool b => cases b <;> rfl
  | _ => simp only [forceV, forceI_eq, forceS_eq, forceP_eq, forceN_eq, forceO_eq, forceL_eq]
theorem forceA_eq : ∀ (l : List AV) (k : List AV → R), forceA l k = k l
  | [], k => rfl
  | x :: r, k => by simp only [forceA, forceV_eq x, forceA_eq r]
theorem forceM_eq : ∀ (l : List (AV × AV)) (k : List (AV × AV) → R), forceM l k = k l
  | [], k => rfl
  | (x, y) :: r, k => by simp only [forceM, forceV_eq, forceM_eq r]
theorem forceB_eq (b : ABlk) (k : ABlk → R) : forceB b k = k b := by
  cases b <;> simp only [forceB, forceL_eq, forceM_eq, forceN_eq]
theorem forceE_eq : ∀ (l : List Eff) (k : List Eff → R), forceE l k = k l
  | [], k => rfl
  | .push b :: r, k => by simp only [forceE, forceB_eq, forceE_eq r]
  | .set i b :: r, k => by simp only [forceE, forceN_eq, forceB_eq, forceE_eq r]
  | .kill i :: r, k => by simp only [forceE, forceN_eq, forceE_eq r]
noncomputable def setK (l : List AV) : Nat → AV → (List AV → R) → R :=
  List.rec (motive := fun _ => Nat → AV → (List AV → R) → R) (fun _ _ k => k []) (fun x r ih i v k => Nat.rec (motive := fun _ => R) (k (v :: r)) (fun j _ => ih j v fun r => k (x :: r)) i) l
theorem setK_eq (l : List AV) (i : Nat) (v : AV) (k : List AV → R) : setK l i v k = k (l.set i v) := by
  induction l generalizing i k with
  | nil => rfl
  | cons x r ih =>
    cases i with
    | zero => rfl
    | succ i => exact ih i _
noncomputable def putK (d : Option Nat) (v : AV) (ts : List AV) (k : List AV → R) : R := match d with
  | some i => forceV v fun v => setK ts i v k
  | none => k ts
theorem putK_eq (d : Option Nat) (v : AV) (ts : List AV) (k : List AV → R) : putK d v ts k = k (put d v ts) := by
  cases d with
  | none => rfl
  | some i => simp only [putK, forceV_eq, setK_eq, put]
end force
structure EState where
  tr : Tr ABlk
  next : Nat
def EState.st (τ : EState) : AState := { get := fun i => τ.tr.get i, next := τ.next }
def effE (τ : EState) : Eff → Option EState
  | .push b => match τ.tr.set 64 τ.next (some b) with
    | some t => forceN (τ.next + 1) fun n => some ⟨t, n⟩
    | none => none
  | .set i b => match τ.tr.set 64 i (some b) with
    | some t => some ⟨t, τ.next⟩
    | none => none
  | .kill i => match τ.tr.set 64 i none with
    | some t => some ⟨t, τ.next⟩
    | none => none
def appE : EState → List Eff → Option EState
  | τ, [] => some τ
  | τ, e :: r => match effE τ e with
    | some τ' => appE τ' r
    | none => none
theorem effE_ok {τ τ' : EState} {e : Eff} (h : effE τ e = some τ') : τ'.st = τ.st.eff e := by
  cases e <;> simp only [effE, forceN_eq] at h <;> split at h <;> try cases h
  all_goals
    rename_i t ht
    have := Tr.get_set _ _ _ _ _ ht
    simp only [EState.st, AState.eff, AState.push, AState.set, AState.kill, AState.mk.injEq, and_true]
    funext j
    exact this j
theorem appE_ok : ∀ {es : List Eff} {τ τ' : EState}, appE τ es = some τ' → τ'.st = τ.st.app es
  | [], τ, τ', h => by simp only [appE, Option.some.injEq] at h; subst h; rfl
  | e :: r, τ, τ', h => by
    simp only [appE] at h
    split at h
    · rename_i τ1 h1
      rw [appE_ok h, effE_ok h1]; rfl
    · cases h
mutual
def eqAV : AV → AV → Bool
  | .int k n, .int k' n' => decide (k = k') && decide (n = n')
  | .bool a, .bool b => a == b
  | .str a, .str b => decide (a = b)
  | .ptr none, .ptr none => true
  | .ptr (some (i, o)), .ptr (some (i', o')) => Nat.beq i i' && Nat.beq o o'
  | .slice none l c s, .slice none l' c' s' => Nat.beq l l' && decide (c = c') && Nat.beq s s'
  | .slice (some (i, o)) l c s, .slice (some (i', o')) l' c' s' => Nat.beq i i' && Nat.beq o o' && Nat.beq l l' && decide (c = c') && Nat.beq s s'
  | .map none, .map none => true
  | .map (some i), .map (some i') => Nat.beq i i'
  | .func (.func f) a b, .func (.func f') a' b' => Nat.beq f f' && eqAVL a a' && eqAVL b b'
  | .yieldf i, .yieldf i' => Nat.beq i i'
  | .nilFunc, .nilFunc => true
  | .iface t v, .iface t' v' => Nat.beq t t' && eqAV v v'
  | .nilIface, .nilIface => true
  | .agg l, .agg l' => eqAVL l l'
  | .tuple l, .tuple l' => eqAVL l l'
  | _, _ => false
def eqAVL : List AV → List AV → Bool
  | [], [] => true
  | x :: r, y :: s => eqAV x y && eqAVL r s
  | _, _ => false
end
mutual
theorem eqAV_ok : ∀ (x y : AV), eqAV x y = true → x = y
  | x, y, h => by
    unfold eqAV at h
    split at h <;> try simp only [Bool.and_eq_true, decide_eq_true_eq, beq_iff_eq, Nat.beq_eq] at h
    all_goals first
      | rfl
      | (cases h; done)
      | (subst h; rfl)
      | (obtain ⟨rfl, rfl⟩ := h; rfl)
      | (obtain ⟨⟨rfl, rfl⟩, rfl⟩ := h; rfl)
      | (obtain ⟨⟨⟨⟨rfl, rfl⟩, rfl⟩, rfl⟩, rfl⟩ := h; rfl)
      | (obtain ⟨⟨rfl, h1⟩, h2⟩ := h; rw [eqAVL_ok _ _ h1, eqAVL_ok _ _ h2])
      | (obtain ⟨rfl, h1⟩ := h; rw [eqAV_ok _ _ h1])
      | rw [eqAVL_ok _ _ h]
theorem eqAVL_ok : ∀ (x y : List AV), eqAVL x y = true → x = y
  | x, y, h => by
    unfold eqAVL at h
    split at h <;> try simp only [Bool.and_eq_true] at h
    all_goals first
      | rfl
      | (cases h; done)
      | (rw [eqAV_ok _ _ h.1, eqAVL_ok _ _ h.2])
end
def eqBlk : Option ABlk → ABlk → Bool
  | some (.cells l w), .cells l' w' => eqAVL l l' && (w == w')
  | _, _ => false
theorem eqBlk_ok {x : Option ABlk} {b : ABlk} (h : eqBlk x b = true) : x = some b := by
  unfold eqBlk at h
  split at h
  · simp only [Bool.and_eq_true, beq_iff_eq] at h
    rw [eqAVL_ok _ _ h.1, h.2]
  · cases h
noncomputable def getR (l : List AV) : Nat → AV :=
  List.rec (motive := fun _ => Nat → AV) (fun _ => U) (fun x _ ih i => Nat.rec (motive := fun _ => AV) x (fun j _ => ih j) i) l
theorem getR_eq (l : List AV) (i : Nat) : getR l i = l.getD i U := by
  induction l generalizing i with
  | nil => rfl
  | cons x r ih =>
    cases i with
    | zero => rfl
    | succ i => exact ih i
noncomputable def evF (ts : List AV) : X → AV
  | .t i => getR ts i
  | .c v => v
  | .g i => .ptr (some (i, 0))
theorem evF_eq (ts : List AV) : evF ts = X.ev ts := by
  funext x
  cases x with
  | t i => exact getR_eq ts i
  | _ => rfl
noncomputable def opB : AOp → (Nat → Option ABlk) → Nat → List AV → Option (AV × List Eff)
  | .mv x => fun g next ts => some ((evF ts x), [])
  | .pick c a b => fun g next ts => match (evF ts c) with
    | .bool b' => some (if b' then (evF ts a) else (evF ts b), [])
    | _ => none
  | .alloc z => fun g next ts => some (.ptr (some (next, 0)), [.push (.cells z true)])
  | .box x => fun g next ts => some (.ptr (some (next, 0)), [.push (.cells ((evF ts x)).cells true)])
  | .build z parts => fun g next ts => match fillA z (parts.map fun p => (p.1, p.2.1, (evF ts p.2.2))) with
    | some l => some (.agg l, [])
    | none => none
  | .buildSlice sz len z parts => fun g next ts => match fillA z (parts.map fun p => (p.1, p.2.1, (evF ts p.2.2))) with
    | some l => some (.slice (some (next, 0)) len (some len) sz, [.push (.cells l true)])
    | none => none
  | .load n x => fun g next ts => match (evF ts x) with
    | .ptr (some (i, o)) => match g i with
      | some (.cells l _) => match partA l o n with
        | some v => some (v, [])
        | none => none
      | _ => none
    | _ => none
  | .store n a v => fun g next ts => match (evF ts a) with
    | .ptr (some (i, o)) => match g i with
      | some (.cells l true) => if ((evF ts v)).cells.length = n ∧ o + n ≤ l.length ∧ allOne ((evF ts v)).cells = true then some (U, [.set i (.cells (putL l o ((evF ts v)).cells) true)]) else none
      | _ => none
    | _ => none
  | .fieldAddr off x => fun g next ts => match (evF ts x) with
    | .ptr (some (i, o)) => some (.ptr (some (i, o + off)), [])
    | _ => none
  | .field off n x => fun g next ts => match (evF ts x) with
    | .agg l => match partA l off n with
      | some v => some (v, [])
      | none => none
    | _ => none
  | .idxS sz x i => fun g next ts => match (evF ts x), (evF ts i) with
    | .slice (some (b, o)) len _ sz', .int _ n => if sz' = sz ∧ 0 ≤ n ∧ n < len then some (.ptr (some (b, o + n.toNat * sz)), []) else none
    | _, _ => none
  | .idxA len sz x i => fun g next ts => match (evF ts x), (evF ts i) with
    | .ptr (some (b, o)), .int _ n => if 0 ≤ n ∧ n < len then some (.ptr (some (b, o + n.toNat * sz)), []) else none
    | _, _ => none
  | .idxStr x i => fun g next ts => match (evF ts x), (evF ts i) with
    | .str s, .int _ n => if 0 ≤ n then (match s[n.toNat]? with
      | some b => some (.int .u8 b.toNat, [])
      | none => none) else none
    | _, _ => none
  | .idxArr len sz n x i => fun g next ts => match (evF ts x), (evF ts i) with
    | .agg l, .int _ k => if 0 ≤ k ∧ k < len then (match partA l (k.toNat * sz) n with
      | some v => some (v, [])
      | none => none) else none
    | _, _ => none
  | .bin op x y => fun g next ts => match binA op ((evF ts x)) ((evF ts y)) with
    | some v => some (v, [])
    | none => none
  | .eq k neg x y => fun g next ts => match eqA k ((evF ts x)) ((evF ts y)) with
    | some b => some (.bool (if neg then !b else b), [])
    | none => none
  | .un op x => fun g next ts => match op, (evF ts x) with
    | .not, .bool b => some (.bool !b, [])
    | .neg, .int k n => some (.int k (wrapF k (0 - n)), [])
    | .xor, .int k n => some (.int k (k.wrap (BitVec.ofInt k.bits (if k.signed then -1 else k.max) ^^^ BitVec.ofInt k.bits n).toNat), [])
    | _, _ => none
  | .conv k x => fun g next ts => match (evF ts x) with
    | .int _ n => some (.int k (wrapF k n), [])
    | _ => none
  | .convStr x => fun g next ts => match (evF ts x) with
    | .str s => some (.str s, [])
    | _ => none
  | .strBytes x => fun g next ts => match (evF ts x) with
    | .str s => some (.slice (some (next, 0)) s.length none 1, [.push (.cells (bytesOf s) true)])
    | _ => none
  | .bytesStr x => fun g next ts => match (evF ts x) with
    | .slice o n c sz => match firstA g 1 n (.slice o n c sz) with
      | some l => match toBytes l with
        | some s => some (.str s, [])
        | none => none
      | none => none
    | _ => none
  | .intStr x => fun g next ts => match (evF ts x) with
    | .int _ n => some (.str (Utf8.encode n).data.toList, [])
    | _ => none
  | .mkIface t x => fun g next ts => some (.iface t ((evF ts x)), [])
  | .mkFunc fn first cap => fun g next ts => some (.func fn (first.map (evF ts)) (cap.map (evF ts)), [])
  | .mkMap => fun g next ts => some (.map (some next), [.push (.map [])])
  | .mkSlice sz bytes z l c => fun g next ts => match natOf ((evF ts l)), natOf ((evF ts c)) with
    | some l, some c => if l ≤ c ∧ 0 < sz ∧ 0 < bytes ∧ c * bytes ≤ 281474976710656 ∧ z.length = sz then some (.slice (some (next, 0)) l (some c) sz, [.push (.cells (List.replicate c z).flatten true)]) else none
    | _, _ => none
  | .sliceS sz x lo hi mx => fun g next ts => match (evF ts x) with
    | .slice o len cap sz' => if o = none ∨ sz' = sz then (match boundsA len cap (evO ts lo) (evO ts hi) (evO ts mx) with
      | some (l, h, c) => some (.slice (o.map fun p => (p.1, p.2 + l * sz)) (h - l) c sz, [])
      | none => none) else none
    | _ => none
  | .sliceStr x lo hi => fun g next ts => match (evF ts x) with
    | .str s => match boundsA s.length (some s.length) (evO ts lo) (evO ts hi) none with
      | some (l, h, _) => some (.str ((s.take h).drop l), [])
      | none => none
    | _ => none
  | .sliceA n sz x lo hi mx => fun g next ts => match (evF ts x) with
    | .ptr (some (i, o)) => match g i with
      | some (.cells l _) => match boundsA n (some n) (evO ts lo) (evO ts hi) (evO ts mx) with
        | some (lo, h, c) => if o + n * sz ≤ l.length then some (.slice (some (i, o + lo * sz)) (h - lo) c sz, []) else none
        | none => none
      | _ => none
    | _ => none
  | .lookup b ok z x k => fun g next ts =>
    match (match (evF ts x) with
      | .map none => some []
      | .map (some i) => match g i with
        | some (.map es) => some es
        | _ => none
      | _ => none) with
    | some es => match keyFind b ((evF ts k)) es with
      | some (some v) => some (if ok then .tuple [v, .bool true] else v, [])
      | some none => some (if ok then .tuple [z, .bool false] else z, [])
      | none => none
    | none => none
  | .mapSet b m k v => fun g next ts => match (evF ts m) with
    | .map (some i) => match g i with
      | some (.map es) => match keyFind b ((evF ts k)) es with
        | some _ => some (U, [.set i (.map (keySet b ((evF ts k)) ((evF ts v)) es))])
        | none => none
      | _ => none
    | _ => none
  | .rangeStr x => fun g next ts => match (evF ts x) with
    | .str s => some (.ptr (some (next, 0)), [.push (.iter s 0)])
    | _ => none
  | .nextStr x => fun g next ts => match (evF ts x) with
    | .ptr (some (i, 0)) => match g i with
      | some (.iter s pos) =>
        if pos < s.length then some (.tuple [.bool true, .int .i64 pos, .int .i32 (Utf8.decode ⟨s.toArray⟩ pos).1], [.set i (.iter s (pos + (Utf8.decode ⟨s.toArray⟩ pos).2))])
        else some (.tuple [.bool false], [])
      | _ => none
    | _ => none
  | .extract i x => fun g next ts => match (evF ts x) with
    | .tuple l => match l[i]? with
      | some v => some (v, [])
      | none => none
    | _ => none
  | .len k x => fun g next ts => match k, (evF ts x) with
    | .str, .str s => some (.int .i64 s.length, [])
    | .slice, .slice _ n _ _ => some (.int .i64 n, [])
    | .map, .map none => some (.int .i64 0, [])
    | .map, .map (some i) => match g i with
      | some (.map es) => some (.int .i64 es.length, [])
      | _ => none
    | _, _ => none
  | .lenC n => fun g next ts => some (.int .i64 n, [])
  | .cap x => fun g next ts => match (evF ts x) with
    | .slice _ _ (some c) _ => some (.int .i64 c, [])
    | _ => none
  | .append sz bytes s x => fun g next ts => match lenA ((evF ts x)) with
    | some n => match firstA g sz n ((evF ts x)) with
      | some xs => appendA g next sz bytes ((evF ts s)) n xs
      | none => none
    | none => none
  | .appendZ sz bytes z s n => fun g next ts => match natOf ((evF ts n)) with
    | some m => if 0 < m ∧ z.length = sz ∧ 0 < bytes ∧ m * bytes ≤ 281474976710656 then appendA g next sz bytes ((evF ts s)) m (List.replicate m z).flatten else none
    | none => none
  | .copy sz d s => fun g next ts => match (evF ts d), lenA ((evF ts s)) with
    | .slice o dLen _ sz', some sLen =>
      match firstA g sz (Nat.min sLen dLen) ((evF ts s)), o with
      | some _, none => some (.int .i64 (Nat.min sLen dLen), [])
      | some xs, some (i, o) => match g i with
        | some (.cells l true) => if sz' = sz ∧ o + xs.length ≤ l.length ∧ allOne xs = true then some (.int .i64 (Nat.min sLen dLen), [.set i (.cells (putL l o xs) true)]) else none
        | _ => none
      | none, _ => none
    | _, _ => none
  | .max l => fun g next ts => match l.map (evF ts) with
    | x :: r => match maxA x r with
      | some v => some (v, [])
      | none => none
    | [] => none
  | .min l => fun g next ts => match l.map (evF ts) with
    | x :: r => match minA x r with
      | some v => some (v, [])
      | none => none
    | [] => none
  | .nilCheck x => fun g next ts => match (evF ts x) with
    | .ptr (some p) => some (.ptr (some p), [])
    | .func (.func f) a b => some (.func (.func f) a b, [])
    | .yieldf i => some (.yieldf i, [])
    | .iface t v => some (.iface t v, [])
    | _ => none
  | .assertT t ok z x => fun g next ts => match (evF ts x) with
    | .iface t' v => if t' = t then some (if ok then .tuple [v, .bool true] else v, []) else if ok then some (.tuple [z, .bool false], []) else none
    | .nilIface => if ok then some (.tuple [z, .bool false], []) else none
    | _ => none
  | .fail => fun g next ts => none
theorem opB_eq (g : Nat → Option ABlk) (next : Nat) (ts : List AV) (o : AOp) : opB o g next ts = opA g next ts o := by
  cases o <;> simp only [opB, opA, evF_eq] <;> rfl
noncomputable def againE (g : Nat → Option ABlk) (next : Nat) (ts : List AV) (t : Nat) (o : AOp) : Bool :=
  match opB o g next ts with
  | some (v, []) => eqAV (ts.getD t U) v
  | some (_, [.push b]) => match ts.getD t U with
    | .ptr (some (i, 0)) => eqBlk (g i) b
    | .slice (some (i, 0)) _ _ _ => eqBlk (g i) b
    | _ => false
  | _ => false
theorem againE_ok {g : Nat → Option ABlk} {next : Nat} {ts : List AV} {t : Nat} {o : AOp} (h : againE g next ts t o = true) : againOk g next ts t o := by
  unfold againE at h
  rw [opB_eq] at h
  unfold againOk
  split at h
  · rename_i e; simp only [e]; exact eqAV_ok _ _ h
  · rename_i e
    simp only [e]
    split at h
    · rename_i e2; simp only [e2]; exact eqBlk_ok h
    · rename_i e2; simp only [e2]; exact eqBlk_ok h
    · cases h
  · cases h
abbrev CallE := AV → List AV → EState → Option (AV × EState)
noncomputable def evIts (call : CallE) : List It → List AV → EState → Option (List AV × EState)
  | [], ts, τ => some (ts, τ)
  | .op d g o :: r, ts, τ => match wants ts g with
    | true => match opB o τ.tr.get τ.next ts with
      | some (v, es) => forceE es fun es => match appE τ es with
        | some τ' => putK d v ts fun ts => evIts call r ts τ'
        | none => none
      | none => none
    | false => putK d U ts fun ts => evIts call r ts τ
  | .call d g f args :: r, ts, τ => match wants ts g with
    | true => forceA (args.map (evF ts)) fun az => match call (evF ts f) az τ with
      | some (v, τ') => putK d v ts fun ts => evIts call r ts τ'
      | none => none
    | false => putK d U ts fun ts => evIts call r ts τ
  | .inv d g tab x args :: r, ts, τ => match wants ts g with
    | true => match x.ev ts with
      | .iface t v => match tabFind t tab with
        | some f => forceA (v :: args.map (evF ts)) fun az => match call (.func (.func f) [] []) az τ with
          | some (v, τ') => putK d v ts fun ts => evIts call r ts τ'
          | none => none
        | none => none
      | _ => none
    | false => putK d U ts fun ts => evIts call r ts τ
  | .again t g o :: r, ts, τ => match wants ts g with
    | true => match againE τ.tr.get τ.next ts t o with
      | true => evIts call r ts τ
      | false => none
    | false => evIts call r ts τ
def iterE (f : List AV → EState → Option (Ex × List AV × EState)) : Nat → List AV → EState → Option (Ex × List AV × EState)
  | 0, _, _ => none
  | n + 1, ts, τ => match f ts τ with
    | some (.normal, ts', τ') => iterE f n ts' τ'
    | r => r
noncomputable def evC (call : CallE) (lf : Nat) : AC → List AV → EState → Option (Ex × List AV × EState)
  | .skip, ts, τ => some (.normal, ts, τ)
  | .its l, ts, τ => match evIts call l ts τ with
    | some (ts', τ') => some (.normal, ts', τ')
    | none => none
  | .seq a b, ts, τ => match evC call lf a ts τ with
    | some (.normal, ts', τ') => evC call lf b ts' τ'
    | r => r
  | .cond x a b, ts, τ => match x.ev ts with
    | .bool true => evC call lf a ts τ
    | .bool false => evC call lf b ts τ
    | _ => none
  | .block id b, ts, τ => match evC call lf b ts τ with
    | some (.exit i, ts', τ') => bif Nat.beq i id then some (.normal, ts', τ') else some (.exit i, ts', τ')
    | r => r
  | .loop b, ts, τ => iterE (evC call lf b) lf ts τ
  | .rangef x ps assign body, ts, τ => match effE τ (.push (.loop .ready none ts ps assign body)) with
    | none => none
    | some τ1 => match call (x.ev ts) [.yieldf τ.next] τ1 with
      | none => none
      | some (_, τ2) => match τ2.tr.get τ.next with
        | some (.loop st pend _ _ _ _) => match st with
          | .busy => none
          | _ => match effE τ2 (.kill τ.next) with
            | none => none
            | some τ3 => match pend with
              | none => some (.normal, ts, τ3)
              | some e => some (e, ts, τ3)
        | _ => none
  | .exit id, ts, τ => some (.exit id, ts, τ)
  | .ret, ts, τ => some (.ret, ts, τ)
  | .fail, _, _ => none
def endE (rs : List (Nat × Option (Option Nat))) : Option (Ex × List AV × EState) → Option (AV × EState)
  | some (.exit _, _, _) => none
  | some (_, ts, τ) => match resultA τ.tr.get ts rs with
    | some vs => some (oneOf vs, τ)
    | none => none
  | none => none
noncomputable def roundE (call : CallE) (lf i : Nat) (args : List AV) (τ : EState) : Option (AV × EState) :=
  match τ.tr.get i with
  | some (.loop .ready _ ts0 ps assign body) =>
    if args.length = ps.length then
      forceL (setPs ps args ts0) fun ts => match evC call lf assign ts τ with
      | some (.normal, ts1, τ1) => match τ1.tr.get i with
        | some (.loop .ready pd1 ts2 ps2 as2 bo2) => match effE τ1 (.set i (.loop .busy pd1 ts2 ps2 as2 bo2)) with
          | none => none
          | some τ2 => match evC call lf body ts1 τ2 with
            | none => none
            | some (e, _, τ3) => match τ3.tr.get i with
              | some (.loop .busy _ ts4 ps4 as4 bo4) => match e with
                | .normal => match effE τ3 (.set i (.loop .ready none ts4 ps4 as4 bo4)) with
                  | some τ4 => some (.bool true, τ4)
                  | none => none
                | .exit id => match effE τ3 (.set i (.loop .done (some (.exit id)) ts4 ps4 as4 bo4)) with
                  | some τ4 => some (.bool false, τ4)
                  | none => none
                | .ret => match effE τ3 (.set i (.loop .done (some .ret) ts4 ps4 as4 bo4)) with
                  | some τ4 => some (.bool false, τ4)
                  | none => none
              | _ => none
        | _ => none
      | _ => none
    else none
  | _ => none
noncomputable def evCall (tab : Nat → Option AFunc) (prim : Nat → List AV → EState → Option (AV × EState)) (lf : Nat) : Nat → CallE
  | 0, _, _, _ => none
  | n + 1, fv, args, τ => match fv with
    | .func (.func f) first cap => match tab f with
      | some af => forceL ((first ++ args ++ cap) ++ List.replicate (af.ntmps - (first ++ args ++ cap).length) U) fun ts => endE af.results (evC (evCall tab prim lf n) lf af.body ts τ)
      | none => match first, cap with
        | [], [] => prim f args τ
        | _, _ => none
    | .yieldf i => roundE (evCall tab prim lf n) lf i args τ
    | _ => none
section sound
variable {P : Program}
def CallOk (P : Program) (call : CallE) : Prop := ∀ fv args τ v τ', call fv args τ = some (v, τ') → RunV (RsOf P) P fv args τ.st (fun u σ' => u = v ∧ σ' = τ'.st)
theorem evIts_ok {call : CallE} (hc : CallOk P call) : ∀ (l : List It) (ts : List AV) (τ : EState) (ts' : List AV) (τ' : EState), evIts call l ts τ = some (ts', τ') → wpIts (RsOf P) P l ts τ.st (fun u σ' => u = ts' ∧ σ' = τ'.st)
  | [], ts, τ, ts', τ', h => by simp only [evIts, Option.some.injEq, Prod.mk.injEq] at h; obtain ⟨rfl, rfl⟩ := h; exact ⟨rfl, rfl⟩
  | .op d g o :: r, ts, τ, ts', τ', h => by
    simp only [evIts, forceE_eq, forceA_eq, putK_eq, opB_eq, evF_eq] at h
    simp only [wpIts]
    split at h
    · rename_i hw
      simp only [hw, if_true]
      split at h
      case h_2 => cases h
      rename_i v es hop
      split at h
      case h_2 => cases h
      rename_i τ1 h1
      have e : opA τ.st.get τ.st.next ts o = some (v, es) := hop
      simp only [e]
      rw [← appE_ok h1]
      exact evIts_ok hc r _ _ _ _ h
    · rename_i hw
      simp only [hw, Bool.false_eq_true, if_false]
      exact evIts_ok hc r _ _ _ _ h
  | .call d g f args :: r, ts, τ, ts', τ', h => by
    simp only [evIts, forceE_eq, forceA_eq, putK_eq, opB_eq, evF_eq] at h
    simp only [wpIts]
    split at h
    · rename_i hw
      simp only [hw, if_true]
      split at h
      case h_2 => cases h
      rename_i v τ1 h1
      refine (hc _ _ _ _ _ h1).mono ?_
      rintro u σ' ⟨rfl, rfl⟩
      exact evIts_ok hc r _ _ _ _ h
    · rename_i hw
      simp only [hw, Bool.false_eq_true, if_false]
      exact evIts_ok hc r _ _ _ _ h
  | .inv d g tab x args :: r, ts, τ, ts', τ', h => by
    simp only [evIts, forceE_eq, forceA_eq, putK_eq, opB_eq, evF_eq] at h
    simp only [wpIts]
    split at h
    · rename_i hw
      simp only [hw, if_true]
      split at h
      case h_2 => cases h
      rename_i t v hx
      split at h
      case h_2 => cases h
      rename_i f hf
      split at h
      case h_2 => cases h
      rename_i v' τ1 h1
      simp only [hx, hf]
      refine (hc _ _ _ _ _ h1).mono ?_
      rintro u σ' ⟨rfl, rfl⟩
      exact evIts_ok hc r _ _ _ _ h
    · rename_i hw
      simp only [hw, Bool.false_eq_true, if_false]
      exact evIts_ok hc r _ _ _ _ h
  | .again t g o :: r, ts, τ, ts', τ', h => by
    simp only [evIts, forceE_eq, forceA_eq, putK_eq, opB_eq, evF_eq] at h
    simp only [wpIts]
    split at h
    · split at h
      · rename_i ha
        exact ⟨fun _ => againE_ok ha, evIts_ok hc r _ _ _ _ h⟩
      · cases h
    · rename_i hw
      exact ⟨fun e => by (rw [hw] at e; cases e), evIts_ok hc r _ _ _ _ h⟩
theorem iterE_ok {b : AC} {f : List AV → EState → Option (Ex × List AV × EState)} (hf : ∀ ts τ e ts' τ', f ts τ = some (e, ts', τ') → wpC (RsOf P) P b ts τ.st (fun e2 ts2 σ2 => e2 = e ∧ ts2 = ts' ∧ σ2 = τ'.st)) :
    ∀ (n : Nat) (ts : List AV) (τ : EState) (e : Ex) (ts' : List AV) (τ' : EState), iterE f n ts τ = some (e, ts', τ') → wpC (RsOf P) P (.loop b) ts τ.st (fun e2 ts2 σ2 => e2 = e ∧ ts2 = ts' ∧ σ2 = τ'.st)
  | 0, ts, τ, e, ts', τ', h => by simp [iterE] at h
  | n + 1, ts, τ, e, ts', τ', h => by
    simp only [iterE] at h
    refine wp_unroll ?_
    split at h
    · rename_i ts1 τ1 h1
      refine wpC_mono b (hf _ _ _ _ _ h1) ?_
      rintro e2 ts2 σ2 ⟨rfl, rfl, rfl⟩
      exact iterE_ok hf n _ _ _ _ _ h
    · rename_i hne
      cases hr : f ts τ with
      | none => rw [hr] at h; cases h
      | some r =>
        obtain ⟨e1, ts1, τ1⟩ := r
        rw [hr] at h
        injection h with h; injection h with h1 h2; injection h2 with h2 h3; subst h1; subst h2; subst h3
        refine wpC_mono b (hf _ _ _ _ _ hr) ?_
        rintro e2 ts2 σ2 ⟨rfl, rfl, rfl⟩
        cases e2 with
        | normal => exact absurd hr (hne _ _)
        | exit id => exact ⟨rfl, rfl, rfl⟩
        | ret => exact ⟨rfl, rfl, rfl⟩
theorem evC_ok {call : CallE} (hc : CallOk P call) (lf : Nat) : ∀ (c : AC) (ts : List AV) (τ : EState) (e : Ex) (ts' : List AV) (τ' : EState), evC call lf c ts τ = some (e, ts', τ') → wpC (RsOf P) P c ts τ.st (fun e2 ts2 σ2 => e2 = e ∧ ts2 = ts' ∧ σ2 = τ'.st)
  | .skip, ts, τ, e, ts', τ', h => by
    simp only [evC, Option.some.injEq, Prod.mk.injEq] at h
    obtain ⟨rfl, rfl, rfl⟩ := h
    exact ⟨rfl, rfl, rfl⟩
  | .its l, ts, τ, e, ts', τ', h => by
    simp only [evC] at h
    split at h
    · rename_i ts1 τ1 h1
      simp only [Option.some.injEq, Prod.mk.injEq] at h
      obtain ⟨rfl, rfl, rfl⟩ := h
      refine wpIts_mono l (evIts_ok hc l _ _ _ _ h1) ?_
      rintro ts2 σ2 ⟨rfl, rfl⟩
      exact ⟨rfl, rfl, rfl⟩
    · cases h
  | .seq a b, ts, τ, e, ts', τ', h => by
    simp only [evC] at h
    simp only [wpC]
    split at h
    · rename_i ts1 τ1 h1
      refine wpC_mono a (evC_ok hc lf a _ _ _ _ _ h1) ?_
      rintro e2 ts2 σ2 ⟨rfl, rfl, rfl⟩
      exact evC_ok hc lf b _ _ _ _ _ h
    · rename_i hne
      refine wpC_mono a (evC_ok hc lf a _ _ _ _ _ h) ?_
      rintro e2 ts2 σ2 ⟨rfl, rfl, rfl⟩
      cases e2 with
      | normal => exact absurd h (hne _ _)
      | exit id => exact ⟨rfl, rfl, rfl⟩
      | ret => exact ⟨rfl, rfl, rfl⟩
  | .cond x a b, ts, τ, e, ts', τ', h => by
    simp only [evC] at h
    simp only [wpC]
    split at h
    · rename_i hx; simp only [hx, if_true]; exact evC_ok hc lf a _ _ _ _ _ h
    · rename_i hx; simp only [hx, Bool.false_eq_true, if_false]; exact evC_ok hc lf b _ _ _ _ _ h
    · cases h
  | .block id b, ts, τ, e, ts', τ', h => by
    simp only [evC] at h
    simp only [wpC]
    split at h
    · rename_i i ts1 τ1 h1
      refine wpC_mono b (evC_ok hc lf b _ _ _ _ _ h1) ?_
      rintro e2 ts2 σ2 ⟨rfl, rfl, rfl⟩
      by_cases hi : i = id
      · subst hi
        simp only [Nat.beq_refl, cond_true, Option.some.injEq, Prod.mk.injEq] at h
        obtain ⟨rfl, rfl, rfl⟩ := h
        simp
      · have hb : Nat.beq i id = false := by
          cases e : Nat.beq i id
          · rfl
          · exact absurd (Nat.eq_of_beq_eq_true e) hi
        simp only [hb, cond_false, Option.some.injEq, Prod.mk.injEq] at h
        obtain ⟨rfl, rfl, rfl⟩ := h
        simp [hi]
    · rename_i hne
      refine wpC_mono b (evC_ok hc lf b _ _ _ _ _ h) ?_
      rintro e2 ts2 σ2 ⟨rfl, rfl, rfl⟩
      cases e2 with
      | normal => exact ⟨rfl, rfl, rfl⟩
      | exit id' => exact absurd h (hne _ _ _)
      | ret => exact ⟨rfl, rfl, rfl⟩
  | .loop b, ts, τ, e, ts', τ', h => iterE_ok (evC_ok hc lf b) lf ts τ e ts' τ' h
  | .rangef x ps assign body, ts, τ, e, ts', τ', h => by
    simp only [evC] at h
    simp only [wpC]
    split at h
    · cases h
    rename_i τ1 h1
    split at h
    · cases h
    rename_i v τ2 h2
    have e1 := effE_ok h1
    have hrun := hc _ _ _ _ _ h2
    rw [e1] at hrun
    refine RunV.mono hrun ?_
    rintro u σ2 ⟨rfl, rfl⟩
    split at h
    case h_2 => cases h
    rename_i st pend ts0 ps0 as0 bo0 hg
    have hg' : τ2.st.get τ.st.next = some (.loop st pend ts0 ps0 as0 bo0) := hg
    simp only [hg']
    split at h
    · cases h
    rename_i hst
    split at h
    · cases h
    rename_i τ3 h3
    have e3 : τ3.st = τ2.st.kill τ.st.next := effE_ok h3
    refine ⟨hst, ?_⟩
    rw [← e3]
    split at h
    · simp only [Option.some.injEq, Prod.mk.injEq] at h
      obtain ⟨rfl, rfl, rfl⟩ := h
      exact ⟨rfl, rfl, rfl⟩
    · simp only [Option.some.injEq, Prod.mk.injEq] at h
      obtain ⟨rfl, rfl, rfl⟩ := h
      exact ⟨rfl, rfl, rfl⟩
  | .exit id, ts, τ, e, ts', τ', h => by
    simp only [evC, Option.some.injEq, Prod.mk.injEq] at h
    obtain ⟨rfl, rfl, rfl⟩ := h
    exact ⟨rfl, rfl, rfl⟩
  | .ret, ts, τ, e, ts', τ', h => by
    simp only [evC, Option.some.injEq, Prod.mk.injEq] at h
    obtain ⟨rfl, rfl, rfl⟩ := h
    exact ⟨rfl, rfl, rfl⟩
  | .fail, ts, τ, e, ts', τ', h => by simp [evC] at h
def PrimOk (P : Program) (prim : Nat → List AV → EState → Option (AV × EState)) : Prop := ∀ f args τ v τ', prim f args τ = some (v, τ') → RunF (RsOf P) P f args τ.st (fun u σ' => u = v ∧ σ' = τ'.st)
theorem evCall_ok (hmix : P.follows .mixedOrders = true) {tab : Nat → Option AFunc} {prim : Nat → List AV → EState → Option (AV × EState)} (htab : ∀ f af, tab f = some af → resF P f = some af) (hprim : PrimOk P prim) (lf : Nat) : ∀ n, CallOk P (evCall tab prim lf n)
  | 0, fv, args, τ, v, τ', h => by simp [evCall] at h
  | n + 1, fv, args, τ, v, τ', h => by
    have ih := evCall_ok hmix htab hprim lf n
    simp only [evCall, forceL_eq] at h
    split at h
    · rename_i f first cap
      split at h
      · rename_i af haf
        refine runF_intro hmix (htab _ _ haf) ?_
        generalize hr : evC (evCall tab prim lf n) lf af.body ((first ++ args ++ cap) ++ List.replicate (af.ntmps - (first ++ args ++ cap).length) U) τ = r at h
        unfold endE at h
        split at h
        · cases h
        · rename_i e ts1 τ1 hne
          have h1 := hr
          split at h
          · rename_i vs hvs
            simp only [Option.some.injEq, Prod.mk.injEq] at h
            obtain ⟨rfl, rfl⟩ := h
            refine wpC_mono _ (evC_ok ih lf _ _ _ _ _ _ h1) ?_
            rintro e2 ts2 σ2 ⟨q1, q2, q3⟩
            subst q1; subst q2; subst q3
            have hvs' : resultA τ1.st.get ts2 af.results = some vs := hvs
            cases e2 with
            | exit id => exact absurd rfl (hne id)
            | normal => simp [EndOk, hvs']
            | ret => simp [EndOk, hvs']
          · cases h
        · cases h
      · split at h
        · exact hprim _ _ _ _ _ h
        · cases h
    · rename_i i
      unfold roundE at h
      simp only [forceL_eq] at h
      split at h
      case h_2 => cases h
      rename_i pd ts0 ps assign body hg
      split at h
      case isFalse => cases h
      rename_i hlen
      split at h
      case h_2 => cases h
      rename_i ts1 τ1 h1
      split at h
      case h_2 => cases h
      rename_i pd1 ts2 ps2 as2 bo2 hg1
      split at h
      · cases h
      rename_i τ2 h2
      split at h
      · cases h
      rename_i e ts3 τ3 h3
      split at h
      case h_2 => cases h
      rename_i pd4 ts4 ps4 as4 bo4 hg3
      have hg' : τ.st.get i = some (.loop .ready pd ts0 ps assign body) := hg
      refine runY_intro hmix hg' hlen ?_
      refine wpC_mono _ (evC_ok ih lf _ _ _ _ _ _ h1) ?_
      rintro e2 ts5 σ2 ⟨rfl, rfl, rfl⟩
      refine ⟨rfl, pd1, ts2, ps2, as2, bo2, hg1, ?_⟩
      have e2 := effE_ok h2
      have e2' : τ2.st = τ1.st.set i (.loop .busy pd1 ts2 ps2 as2 bo2) := e2
      rw [← e2']
      refine wpC_mono _ (evC_ok ih lf _ _ _ _ _ _ h3) ?_
      rintro e5 ts6 σ6 ⟨rfl, rfl, rfl⟩
      refine ⟨pd4, ts4, ps4, as4, bo4, hg3, ?_⟩
      split at h
      · split at h
        · rename_i τ4 h4
          simp only [Option.some.injEq, Prod.mk.injEq] at h
          obtain ⟨rfl, rfl⟩ := h
          exact ⟨rfl, (effE_ok h4).symm⟩
        · cases h
      · split at h
        · rename_i τ4 h4
          simp only [Option.some.injEq, Prod.mk.injEq] at h
          obtain ⟨rfl, rfl⟩ := h
          exact ⟨rfl, (effE_ok h4).symm⟩
        · cases h
      · split at h
        · rename_i τ4 h4
          simp only [Option.some.injEq, Prod.mk.injEq] at h
          obtain ⟨rfl, rfl⟩ := h
          exact ⟨rfl, (effE_ok h4).symm⟩
        · cases h
    · cases h
end sound
end Go.Am
namespace Go.Am
open Go.RowKit
variable {Rs : Code → AC → Prop} {P : Program}
theorem RunF.of_calls {f : Nat} {fn : Func} (hfn : P.funcs[f]? = some fn) (hb : fn.body.isNone = false) (hn : (fn.name == "runtime.NumGoroutine") = false) {args : List AV} {σ : AState} {Q : AV → AState → Prop}
    (h : ∀ w0 ρ D (cargs : Array Value) w, VRelL ρ args cargs.toList → SRel Rs P w0 ρ D σ w → Calls P f cargs w fun e w' => ∃ cv v, e = .returned cv ∧ Q v σ ∧ VRel ρ v cv ∧ Below w.heap.size w w') : RunF Rs P f args σ Q := by
  intro w0 ρ D cf cargs w hcf hargs hS
  simp only [VRel] at hcf
  obtain ⟨f1, c1, rfl, _, hf1, hc1⟩ := hcf
  have e1 : f1 = #[] := by have := VRelL.nil_iff.1 hf1; exact Array.ext' (by simpa using this)
  have e2 : c1 = #[] := by have := VRelL.nil_iff.1 hc1; exact Array.ext' (by simpa using this)
  subst e1; subst e2
  refine ⟨{ target := .fn (.func f) #[], args := #[] ++ cargs }, rfl, ?_⟩
  have hinv : (invoke (.fn (.func f) #[]) (#[] ++ cargs)).run P w = .ok (.enter f cargs) w := by
    simp only [invoke, callFunc, Sem.run_bind, run_program, Result.andThen_ok, hfn, hn, hb, Bool.false_eq_true, if_false, Sem.run_pure]
    simp
  simp only [hinv, NextOut]
  refine (h w0 ρ D cargs w hargs hS).mono ?_
  rintro e w' ⟨cv, v, rfl, hq, hv, hw⟩
  exact ⟨cv, rfl, v, ρ, σ, hq, Nat.le_refl _, RX.refl _ _, hv, hS.garbage hw⟩
theorem RunF.of_extern {f : Nat} {fn : Func} {ex : Array Value → Sem Value} (hfn : P.funcs[f]? = some fn) (hb : fn.body.isNone = true) (hn : (fn.name == "runtime.NumGoroutine") = false) (hx : Extern.findNext fn = none) (he : Extern.find fn = some ex) {args : List AV} {σ : AState} {Q : AV → AState → Prop}
    (h : ∀ ρ (cargs : Array Value) w, VRelL ρ args cargs.toList → ∃ cv v, (ex cargs).run P w = .ok cv w ∧ Q v σ ∧ VRel ρ v cv) : RunF Rs P f args σ Q := by
  intro w0 ρ D cf cargs w hcf hargs hS
  simp only [VRel] at hcf
  obtain ⟨f1, c1, rfl, _, hf1, hc1⟩ := hcf
  have e1 : f1 = #[] := by have := VRelL.nil_iff.1 hf1; exact Array.ext' (by simpa using this)
  have e2 : c1 = #[] := by have := VRelL.nil_iff.1 hc1; exact Array.ext' (by simpa using this)
  subst e1; subst e2
  refine ⟨{ target := .fn (.func f) #[], args := #[] ++ cargs }, rfl, ?_⟩
  obtain ⟨cv, v, hr, hq, hv⟩ := h ρ cargs w hargs
  have hinv : (invoke (.fn (.func f) #[]) (#[] ++ cargs)).run P w = .ok (.value cv) w := by
    simp only [invoke]
    rw [run_callFunc_extern hfn hn hb hx he]
    simp [hr]
  simp only [hinv, NextOut]
  exact ⟨v, ρ, σ, hq, Nat.le_refl _, RX.refl _ _, hv, hS⟩
structure Prims where
  join : Nat
  count : Nat
  index : Nat
def toStrs : List AV → Option (List (List UInt8))
  | [] => some []
  | .str s :: r => match toStrs r with
    | some l => some (s :: l)
    | none => none
  | _ :: _ => none
def primE (p : Prims) (f : Nat) (args : List AV) (τ : EState) : Option (AV × EState) :=
  bif Nat.beq f p.join then (match args with
    | [.slice o n c sz, .str sep] => match firstA τ.tr.get 1 n (.slice o n c sz) with
      | some l => match toStrs l with
        | some ss => if (Lib.join ss sep).length ≤ 281474976710656 ∧ n ≤ 140737488355328 then some (.str (Lib.join ss sep), τ) else none
        | none => none
      | none => none
    | _ => none)
  else bif Nat.beq f p.count then (match args with
    | [.str s, .int .u8 c] => some (.int .i64 (Lib.countByte s c.toNat.toUInt8), τ)
    | _ => none)
  else bif Nat.beq f p.index then (match args with
    | [.str s, .int .u8 c] => some (.int .i64 (Lib.indexByte s c.toNat.toUInt8), τ)
    | _ => none)
  else none
structure JoinOk (P : Program) (f : Nat) : Prop where
  fn : ∃ fn, P.funcs[f]? = some fn ∧ fn.body.isNone = false ∧ (fn.name == "runtime.NumGoroutine") = false
  zero : ∀ (a : Option Addr) (c : Nat) (sep : ByteArray) (w : World), Calls P f #[.slice a 0 c, .string sep] w fun e w' => e = .returned (.string ⟨#[]⟩) ∧ w' = w
  many : ∀ (bk o c : Nat) (xs : List ByteArray) (sep : ByteArray) (w : World), (∀ (j : Nat) x, xs[j]? = some x → w.cell? ⟨bk, o + j, none⟩ = some (.string x)) → bk < w.heap.size → xs.length ≤ 140737488355328 → xs.length ≤ c →
    (Lib.join (xs.map (·.data.toList)) sep.data.toList).length ≤ 281474976710656 →
    Calls P f #[.slice (some ⟨bk, o, none⟩) xs.length c, .string sep] w fun e w' => e = .returned (.string ⟨(Lib.join (xs.map (·.data.toList)) sep.data.toList).toArray⟩) ∧ Below w.heap.size w w'
structure ExternOk (P : Program) (f : Nat) (ex : Array Value → Sem Value) : Prop where
  fn : ∃ fn, P.funcs[f]? = some fn ∧ fn.body.isNone = true ∧ (fn.name == "runtime.NumGoroutine") = false ∧ Extern.findNext fn = none ∧ Extern.find fn = some ex
theorem toStrs_rel {ρ : RMap} : ∀ {l : List AV} {ss : List (List UInt8)} {cs : List Value}, toStrs l = some ss → VRelL ρ l cs → ∃ xs : List ByteArray, cs = xs.map Value.string ∧ xs.map (·.data.toList) = ss
  | [], ss, cs, h, hr => by
    simp only [toStrs, Option.some.injEq] at h; subst h
    exact ⟨[], by simpa using VRelL.nil_iff.1 hr, rfl⟩
  | x :: r, ss, cs, h, hr => by
    cases x with
    | str s =>
      simp only [toStrs] at h
      split at h
      · rename_i l e
        injection h with h; subst h
        obtain ⟨y, ys, rfl, h1, h2⟩ := VRelL.cons_iff.1 hr
        obtain ⟨xs, rfl, h3⟩ := toStrs_rel e h2
        simp only [VRel] at h1
        obtain ⟨bs, rfl, h4⟩ := h1
        exact ⟨bs :: xs, rfl, by simp [h3, h4]⟩
      · cases h
    | _ => simp [toStrs] at h
theorem prim_join {f : Nat} (hj : JoinOk P f) {σ : AState} {o : Option (Nat × Nat)} {n : Nat} {c : Option Nat} {sz : Nat} {sep : List UInt8} {l : List AV} {ss : List (List UInt8)} (h1 : firstA σ.get 1 n (.slice o n c sz) = some l) (h2 : toStrs l = some ss)
    (h3 : (Lib.join ss sep).length ≤ 281474976710656 ∧ n ≤ 140737488355328) : RunF Rs P f [.slice o n c sz, .str sep] σ (fun u σ' => u = .str (Lib.join ss sep) ∧ σ' = σ) := by
  obtain ⟨fn, hfn, hb, hn⟩ := hj.fn
  refine RunF.of_calls hfn hb hn fun w0 ρ D cargs w ha hS => ?_
  obtain ⟨v1, r1, e1, q1, ha⟩ := VRelL.cons_iff.1 ha
  obtain ⟨v2, r2, e2, q2, ha⟩ := VRelL.cons_iff.1 ha
  have e3 := VRelL.nil_iff.1 ha
  subst e3; subst e2
  have hc : cargs = #[v1, v2] := Array.ext' (by simpa using e1)
  subst hc
  simp only [VRel] at q2
  obtain ⟨bs, rfl, rfl⟩ := q2
  have q1' := q1
  cases o with
  | none =>
    simp only [VRel, SlRel] at q1
    obtain ⟨rfl, _, rfl⟩ := q1
    simp only [firstA, if_true, Option.some.injEq] at h1; subst h1
    simp only [toStrs, Option.some.injEq] at h2; subst h2
    refine (hj.zero none 0 bs w).mono ?_
    rintro e w' ⟨rfl, rfl⟩
    exact ⟨_, _, rfl, ⟨rfl, rfl⟩, by simp [VRel, Lib.join], Below.refl _ _⟩
  | some p =>
    obtain ⟨i, off⟩ := p
    simp only [firstA] at h1
    split at h1
    case h_2 => cases h1
    rename_i x wr hg
    split at h1
    case isFalse => cases h1
    rename_i hle
    injection h1 with h1
    simp only [VRel, SlRel] at q1
    obtain ⟨loc, a, ccap, g1, rfl, g3, g4, g5, g6, g7⟩ := q1
    by_cases hn0 : n = 0
    · subst hn0
      simp only [Nat.zero_mul, List.take_zero] at h1; subst h1
      simp only [toStrs, Option.some.injEq] at h2; subst h2
      refine (hj.zero _ _ bs w).mono ?_
      rintro e w' ⟨rfl, rfl⟩
      exact ⟨_, _, rfl, ⟨rfl, rfl⟩, by simp [VRel, Lib.join], Below.refl _ _⟩
    · obtain ⟨ab, ao, asp⟩ := a
      obtain ⟨g8, g9⟩ := g4.resolve_left (by omega)
      simp only at g3 g8 g9; subst g3; subst g8; subst g9
      have hblk := hS.blk i _ loc hg g1
      have hll : l.length = n := by rw [← h1]; simp; omega
      have hcells : ∃ cs : List Value, VRelL ρ l cs ∧ ∀ (j : Nat) y, cs[j]? = some y → w.cell? ⟨loc.blk, loc.base + off + j, none⟩ = some y := by
        have : ∀ j : Nat, j < n → ∃ y, (∃ u, l[j]? = some u ∧ VRel ρ u y) ∧ w.cell? ⟨loc.blk, loc.base + off + j, none⟩ = some y := fun j hj => by
          have hu : l[j]? = some (l[j]'(by omega)) := List.getElem?_eq_getElem (by omega)
          have hx : x[off + j]? = some (l[j]'(by omega)) := by
            rw [← hu, ← h1, List.getElem?_take, if_pos (by omega), List.getElem?_drop]
          obtain ⟨y, hy, hv⟩ := hblk.2.1 _ _ hx
          exact ⟨y, ⟨_, hu, hv⟩, by rw [Nat.add_assoc]; exact hy⟩
        let cs : List Value := (List.range n).map fun j => (w.cell? ⟨loc.blk, loc.base + off + j, none⟩).getD undef
        have hget : ∀ j, j < n → cs[j]? = some ((w.cell? ⟨loc.blk, loc.base + off + j, none⟩).getD undef) := fun j hj => by simp [cs, hj]
        refine ⟨cs, .of_get (by simp [cs, hll]) fun j u hu => ?_, fun j y hy => ?_⟩
        · have hj : j < n := by
            rcases Nat.lt_or_ge j n with h | h
            · exact h
            · rw [List.getElem?_eq_none (by omega)] at hu; cases hu
          obtain ⟨y, ⟨u', hu', hv⟩, hcy⟩ := this j hj
          rw [hu] at hu'; cases hu'
          exact ⟨y, by rw [hget j hj, hcy]; rfl, hv⟩
        · have hj : j < n := by
            rcases Nat.lt_or_ge j n with h | h
            · exact h
            · rw [List.getElem?_eq_none (by simp [cs]; omega)] at hy; cases hy
          obtain ⟨y', _, hcy⟩ := this j hj
          rw [hget j hj, hcy] at hy
          simp only [Option.getD_some, Option.some.injEq] at hy
          subst hy; exact hcy
      obtain ⟨cs, hcs, hcell⟩ := hcells
      obtain ⟨xs, rfl, hxs⟩ := toStrs_rel h2 hcs
      have hxl : xs.length = n := by have := hcs.length; simp at this; omega
      have hJ := hj.many loc.blk (loc.base + off) ccap xs bs w (fun j y hy => hcell j (.string y) (by simp [hy])) (hS.lt i loc g1) (by omega) (by omega) (by rw [hxs]; exact h3.1)
      rw [hxl, hxs] at hJ
      refine hJ.mono ?_
      rintro e w' ⟨rfl, hw⟩
      exact ⟨_, _, rfl, ⟨rfl, rfl⟩, by simp [VRel], hw⟩
theorem prim_count {f : Nat} (he : ExternOk P f Extern.BytealgCount.count) {σ : AState} {s : List UInt8} {c : Int} : RunF Rs P f [.str s, .int .u8 c] σ (fun u σ' => u = .int .i64 (Lib.countByte s c.toNat.toUInt8) ∧ σ' = σ) := by
  obtain ⟨fn, hfn, hb, hn, hx, he⟩ := he.fn
  refine RunF.of_extern hfn hb hn hx he fun ρ cargs w ha => ?_
  obtain ⟨v1, r1, e1, q1, ha⟩ := VRelL.cons_iff.1 ha
  obtain ⟨v2, r2, e2, q2, ha⟩ := VRelL.cons_iff.1 ha
  have e3 := VRelL.nil_iff.1 ha
  subst e3; subst e2
  have hc : cargs = #[v1, v2] := Array.ext' (by simpa using e1)
  subst hc
  simp only [VRel] at q1 q2
  obtain ⟨bs, rfl, rfl⟩ := q1
  subst q2
  exact ⟨_, _, Lib.run_countString _ _ _, ⟨rfl, rfl⟩, VRel.int⟩
theorem prim_index {f : Nat} (he : ExternOk P f Extern.BytealgIndexByte.indexByte) {σ : AState} {s : List UInt8} {c : Int} : RunF Rs P f [.str s, .int .u8 c] σ (fun u σ' => u = .int .i64 (Lib.indexByte s c.toNat.toUInt8) ∧ σ' = σ) := by
  obtain ⟨fn, hfn, hb, hn, hx, he⟩ := he.fn
  refine RunF.of_extern hfn hb hn hx he fun ρ cargs w ha => ?_
  obtain ⟨v1, r1, e1, q1, ha⟩ := VRelL.cons_iff.1 ha
  obtain ⟨v2, r2, e2, q2, ha⟩ := VRelL.cons_iff.1 ha
  have e3 := VRelL.nil_iff.1 ha
  subst e3; subst e2
  have hc : cargs = #[v1, v2] := Array.ext' (by simpa using e1)
  subst hc
  simp only [VRel] at q1 q2
  obtain ⟨bs, rfl, rfl⟩ := q1
  subst q2
  exact ⟨_, _, Lib.run_indexByteString _ _ _, ⟨rfl, rfl⟩, VRel.int⟩
theorem primE_ok {p : Prims} (hj : JoinOk P p.join) (hc : ExternOk P p.count Extern.BytealgCount.count) (hi : ExternOk P p.index Extern.BytealgIndexByte.indexByte) : PrimOk P (primE p) := by
  intro f args τ v τ' h
  unfold primE at h
  cases e1 : Nat.beq f p.join
  · rw [e1, cond_false] at h
    cases e2 : Nat.beq f p.count
    · rw [e2, cond_false] at h
      cases e3 : Nat.beq f p.index
      · rw [e3, cond_false] at h; cases h
      · rw [e3, cond_true] at h
        have := Nat.eq_of_beq_eq_true e3; subst this
        split at h
        · simp only [Option.some.injEq, Prod.mk.injEq] at h
          obtain ⟨rfl, rfl⟩ := h
          exact prim_index (σ := τ.st) hi
        · cases h
    · rw [e2, cond_true] at h
      have := Nat.eq_of_beq_eq_true e2; subst this
      split at h
      · simp only [Option.some.injEq, Prod.mk.injEq] at h
        obtain ⟨rfl, rfl⟩ := h
        exact prim_count (σ := τ.st) hc
      · cases h
  · rw [e1, cond_true] at h
    have := Nat.eq_of_beq_eq_true e1; subst this
    split at h
    · split at h
      case h_2 => cases h
      rename_i l hl
      split at h
      case h_2 => cases h
      rename_i ss hss
      split at h
      case isFalse => cases h
      rename_i hlen
      simp only [Option.some.injEq, Prod.mk.injEq] at h
      obtain ⟨rfl, rfl⟩ := h
      exact prim_join (σ := τ.st) hj hl hss hlen
    · cases h
end Go.Am
namespace Go.Am
open Go.RowKit
mutual
def AV.flat : AV → Bool
  | .int _ _ | .bool _ | .str _ | .nilFunc | .nilIface => true
  | .ptr o => o.isNone
  | .slice o _ _ _ => o.isNone
  | .map o => o.isNone
  | .yieldf _ => false
  | .func _ f c => AV.flatL f && AV.flatL c
  | .iface _ v => AV.flat v
  | .agg l => AV.flatL l
  | .tuple l => AV.flatL l
def AV.flatL : List AV → Bool
  | [] => true
  | x :: r => AV.flat x && AV.flatL r
end
mutual
theorem VRel.flat {ρ ρ' : RMap} : ∀ (x : AV) (v : Value), AV.flat x = true → VRel ρ x v → VRel ρ' x v
  | .int .., _, _, e | .bool _, _, _, e | .str _, _, _, e | .ptr none, _, _, e | .map none, _, _, e | .nilFunc, _, _, e | .nilIface, _, _, e => by simpa [VRel] using e
  | .ptr (some _), v, h, e => by simp [AV.flat] at h
  | .map (some _), v, h, e => by simp [AV.flat] at h
  | .yieldf _, v, h, e => by simp [AV.flat] at h
  | .slice none len cap sz, v, _, e => by simpa only [VRel, SlRel] using e
  | .slice (some _) len cap sz, v, h, e => by simp [AV.flat] at h
  | .func fn first cap, v, h, e => by
    simp only [AV.flat, Bool.and_eq_true] at h
    simp only [VRel] at e ⊢
    obtain ⟨f, c, q, y, r, s⟩ := e
    exact ⟨f, c, q, y, VRelL.flat _ _ h.1 r, VRelL.flat _ _ h.2 s⟩
  | .iface t x, v, h, e => by
    simp only [AV.flat] at h
    simp only [VRel] at e ⊢
    obtain ⟨y, q, r⟩ := e
    exact ⟨y, q, VRel.flat _ _ h r⟩
  | .agg l, v, h, e => by
    simp only [AV.flat] at h
    simp only [VRel] at e ⊢
    obtain ⟨c, q, r⟩ := e
    exact ⟨c, q, VRelL.flat _ _ h r⟩
  | .tuple l, v, h, e => by
    simp only [AV.flat] at h
    simp only [VRel] at e ⊢
    obtain ⟨c, q, r⟩ := e
    exact ⟨c, q, VRelL.flat _ _ h r⟩
theorem VRelL.flat {ρ ρ' : RMap} : ∀ (l : List AV) (vs : List Value), AV.flatL l = true → VRelL ρ l vs → VRelL ρ' l vs
  | [], _, _, e => by simpa [VRelL] using e
  | x :: r, vs, h, e => by
    simp only [AV.flatL, Bool.and_eq_true] at h
    simp only [VRelL] at e ⊢
    obtain ⟨y, ys, q, a, b⟩ := e
    exact ⟨y, ys, q, VRel.flat _ _ h.1 a, VRelL.flat _ _ h.2 b⟩
end
mutual
theorem VRel.back {ρ ρ' : RMap} (hρ : RLe ρ ρ') : ∀ (x : AV) (u v : Value), VRel ρ x u → VRel ρ' x v → VRel ρ x v
  | .int .., _, _, _, e | .bool _, _, _, _, e | .str _, _, _, _, e | .ptr none, _, _, _, e | .map none, _, _, _, e | .nilFunc, _, _, _, e | .nilIface, _, _, _, e => by simpa [VRel] using e
  | .ptr (some (i, o)), u, v, a, e => by
    simp only [VRel] at a e ⊢
    obtain ⟨l, h, _⟩ := a
    obtain ⟨l', h', rfl⟩ := e
    have := hρ _ _ h
    rw [this] at h'; cases h'
    exact ⟨l, h, rfl⟩
  | .map (some i), u, v, a, e => by
    simp only [VRel] at a e ⊢
    obtain ⟨l, h, _⟩ := a
    obtain ⟨l', h', rfl⟩ := e
    have := hρ _ _ h
    rw [this] at h'; cases h'
    exact ⟨l, h, rfl⟩
  | .yieldf i, u, v, a, e => by
    simp only [VRel] at a e ⊢
    obtain ⟨l, h, _⟩ := a
    obtain ⟨l', h', rfl⟩ := e
    have := hρ _ _ h
    rw [this] at h'; cases h'
    exact ⟨l, h, rfl⟩
  | .slice none len cap sz, u, v, _, e => by simpa only [VRel, SlRel] using e
  | .slice (some (i, o)) len cap sz, u, v, a, e => by
    simp only [VRel, SlRel] at a e ⊢
    obtain ⟨l, _, _, h, _⟩ := a
    obtain ⟨l', q, c, h', r⟩ := e
    have := hρ _ _ h
    rw [this] at h'; cases h'
    exact ⟨l, q, c, h, r⟩
  | .func fn first cap, u, v, a, e => by
    simp only [VRel] at a e ⊢
    obtain ⟨f0, c0, q0, y0, r0, s0⟩ := a
    obtain ⟨f, c, q, y, r, s⟩ := e
    exact ⟨f, c, q, y, VRelL.back hρ _ _ _ r0 r, VRelL.back hρ _ _ _ s0 s⟩
  | .iface t x, u, v, a, e => by
    simp only [VRel] at a e ⊢
    obtain ⟨y0, q0, r0⟩ := a
    obtain ⟨y, q, r⟩ := e
    exact ⟨y, q, VRel.back hρ _ _ _ r0 r⟩
  | .agg l, u, v, a, e => by
    simp only [VRel] at a e ⊢
    obtain ⟨c0, q0, r0⟩ := a
    obtain ⟨c, q, r⟩ := e
    exact ⟨c, q, VRelL.back hρ _ _ _ r0 r⟩
  | .tuple l, u, v, a, e => by
    simp only [VRel] at a e ⊢
    obtain ⟨c0, q0, r0⟩ := a
    obtain ⟨c, q, r⟩ := e
    exact ⟨c, q, VRelL.back hρ _ _ _ r0 r⟩
theorem VRelL.back {ρ ρ' : RMap} (hρ : RLe ρ ρ') : ∀ (l : List AV) (us vs : List Value), VRelL ρ l us → VRelL ρ' l vs → VRelL ρ l vs
  | [], _, _, _, e => by simpa [VRelL] using e
  | x :: r, us, vs, a, e => by
    simp only [VRelL] at a e ⊢
    obtain ⟨y0, ys0, q0, a0, b0⟩ := a
    obtain ⟨y, ys, q, a, b⟩ := e
    exact ⟨y, ys, q, VRel.back hρ _ _ _ a0 a, VRelL.back hρ _ _ _ b0 b⟩
end
theorem esRel.back {ρ ρ' : RMap} (hρ : RLe ρ ρ') : ∀ {l : List (AV × AV)} {es es' : List MapEntry}, esRel ρ l es → esRel ρ' l es' → esRel ρ l es'
  | [], _, _, _, e => e
  | (_, _) :: _, _, _, ⟨_, _, _, a0, b0, r0⟩, ⟨e, t, q, a, b, r⟩ => ⟨e, t, q, VRel.back hρ _ _ _ a0 a, VRel.back hρ _ _ _ b0 b, esRel.back hρ r0 r⟩
theorem BRel.back {R : Code → AC → Prop} {B : Nat} {ρ ρ' : RMap} {w w' : World} (hρ : RLe ρ ρ') {b : ABlk} {m : Loc} (h0 : BRel R B ρ w b m) (h : BRel R B ρ' w' b m) : BRel R B ρ w' b m := by
  cases b with
  | cells l wr =>
    obtain ⟨h1, h2, h3⟩ := h
    obtain ⟨_, k2, _⟩ := h0
    refine ⟨h1, fun k x e => ?_, h3⟩
    obtain ⟨y, hy, hv⟩ := h2 k x e
    obtain ⟨_, _, kv⟩ := k2 k x e
    exact ⟨y, hy, VRel.back hρ _ _ _ kv hv⟩
  | map es =>
    obtain ⟨_, _, _, _, k⟩ := h0
    obtain ⟨h1, c, cl, h2, h3⟩ := h
    exact ⟨h1, c, cl, h2, esRel.back hρ k h3⟩
  | iter s p => exact h
  | loop st pe ts ps a b =>
    obtain ⟨_, _, _, _, _, k, _⟩ := h0
    obtain ⟨h1, r, h2, h3, h4, h5, h6⟩ := h
    exact ⟨h1, r, h2, h3, h4, ⟨h5.1, fun i => VRel.back hρ _ _ _ (k.2 i) (h5.2 i)⟩, h6⟩
section
variable {R : Code → AC → Prop} {P : Program} {w0 w w' : World} {ρ ρ' : RMap} {D : List Nat × List Nat} {σ σ' : AState}
theorem SRel.forget (h : SRel R P w0 ρ D σ w) (h' : SRel R P w0 ρ' D σ' w') (hx : RX σ.next ρ ρ') (hk : ∀ i b, σ.get i = some b → σ'.get i = some b) : SRel R P w0 ρ D σ w' where
  below := h'.below
  dom := h.dom
  lt i l e := h'.lt i l (h.le hx i l e)
  blk i b l e1 e2 := BRel.back (h.le hx) (h.blk i b l e1 e2) (h'.blk i b l (hk i b e1) (h.le hx i l e2))
  sep := h.sep
  defs := h'.defs
  nodup := h.nodup
  loops := h'.loops
  glob := h.glob
def AState.Wf (σ : AState) : Prop := ∀ i, σ.next ≤ i → σ.get i = none
def Ext (σ σ' : AState) : Prop := σ.next ≤ σ'.next ∧ ∀ i b, σ.get i = some b → σ'.get i = some b
theorem Ext.refl (σ : AState) : Ext σ σ := ⟨Nat.le_refl _, fun _ _ h => h⟩
theorem Ext.trans {a b c : AState} (h : Ext a b) (k : Ext b c) : Ext a c := ⟨Nat.le_trans h.1 k.1, fun i x e => k.2 i x (h.2 i x e)⟩
theorem Ext.push {σ : AState} (h : σ.Wf) (b : ABlk) : Ext σ (σ.push b) := ⟨Nat.le_succ _, fun i x e => by
  rw [AState.push_get]
  split
  · rename_i q; rw [h i (by omega)] at e; cases e
  · exact e⟩
theorem AState.Wf.push {σ : AState} (h : σ.Wf) (b : ABlk) : (σ.push b).Wf := fun i hi => by
  have hi' : σ.next + 1 ≤ i := hi
  rw [AState.push_get, if_neg (by omega)]; exact h i (by omega)
theorem AState.Wf.set {σ : AState} (h : σ.Wf) {j : Nat} (hj : j < σ.next) (b : ABlk) : (σ.set j b).Wf := fun i hi => by
  have hi' : σ.next ≤ i := hi
  rw [AState.set_get, if_neg (by omega)]; exact h i hi'
theorem AState.Wf.kill {σ : AState} (h : σ.Wf) (j : Nat) : (σ.kill j).Wf := fun i hi => by
  have hi' : σ.next ≤ i := hi
  rw [AState.kill_get]; split; rfl; exact h i hi'
theorem AState.Wf.lt {σ : AState} (h : σ.Wf) {i : Nat} {b : ABlk} (e : σ.get i = some b) : i < σ.next := by
  rcases Nat.lt_or_ge i σ.next with q | q
  · exact q
  · rw [h i q] at e; cases e
end
section triples
variable {Rs : Code → AC → Prop} {P : Program} {fv : AV} {args : List AV} {σ : AState}
theorem RunV.wf {Q : AV → AState → Prop} (h : σ.Wf → RunV Rs P fv args σ Q) : RunV Rs P fv args σ Q := fun w0 ρ D cf cargs w hf ha hS => h (fun i hi => (hS.dom i hi).2) w0 ρ D cf cargs w hf ha hS
theorem InvokeOut.mono {cf : Value} {cargs : Array Value} {w : World} {A B : Value → World → Prop} (h : InvokeOut P cf cargs w A) (k : ∀ v w', A v w' → B v w') : InvokeOut P cf cargs w B := by
  obtain ⟨d, hd, hn⟩ := h
  exact ⟨d, hd, hn.mono k⟩
theorem RunV.forget {v : AV} (hv : AV.flat v = true) (h : RunV Rs P fv args σ (fun u σ' => u = v ∧ ∀ i b, σ.get i = some b → σ'.get i = some b)) : RunV Rs P fv args σ (fun u σ' => u = v ∧ σ' = σ) := fun w0 ρ D cf cargs w hf ha hS =>
  (h w0 ρ D cf cargs w hf ha hS).mono fun cv w' ⟨u, ρ', σ', ⟨hu, hk⟩, _, hx, hr, hS'⟩ => by
    subst hu
    exact ⟨u, ρ, σ, ⟨rfl, rfl⟩, Nat.le_refl _, RX.refl _ _, VRel.flat _ _ hv hr, hS.forget hS' hx hk⟩
theorem RunF.closed {f : Nat} {v : AV} (hv : AV.flat v = true) (h : RunF Rs P f [] { get := fun _ => none, next := P.globals.size } (fun u _ => u = v)) (σ : AState) :
    RunF Rs P f [] σ (fun u σ' => u = v ∧ σ' = σ) := fun w0 ρ D cf cargs w hf ha hS => by
  have h0 : SRel Rs P w (fun g => if g < P.globals.size then ρ g else none) ([], []) { get := fun _ => none, next := P.globals.size } w := {
    below := Below.refl _ _
    dom := fun i hi => ⟨by have hi' : P.globals.size ≤ i := hi; simp [show ¬ i < P.globals.size by omega], rfl⟩
    lt := fun i l e => by
      split at e
      · exact hS.lt i l e
      · cases e
    blk := fun i b l e => by cases e
    sep := fun i j b c l m _ e => by cases e
    defs := fun d hd => by cases hd
    nodup := List.nodup_nil
    loops := fun d hd => by cases hd
    glob := fun g hg => by
      obtain ⟨l, a, b⟩ := hS.glob g hg
      exact ⟨l, by simp [hg, a], b⟩ }
  have hf' : VRel (fun g => if g < P.globals.size then ρ g else none) (.func (.func f) [] []) cf := VRel.flat _ _ rfl hf
  have ha' : VRelL (fun g => if g < P.globals.size then ρ g else none) [] cargs.toList := VRelL.flat _ _ rfl ha
  exact (h w _ ([], []) cf cargs w hf' ha' h0).mono fun cv w' ⟨u, ρ', σ', hu, _, _, hr, hS'⟩ => by
    subst hu
    exact ⟨u, ρ, σ, ⟨rfl, rfl⟩, Nat.le_refl _, RX.refl _ _, VRel.flat _ _ hv hr, hS.garbage hS'.below⟩
theorem RunV.to {v : AV} {σ2 : AState} {K : AV → AState → Prop} (h : RunV Rs P fv args σ (fun u σ' => u = v ∧ σ' = σ2)) (k : K v σ2) : RunV Rs P fv args σ K :=
  h.mono fun u σ' ⟨h1, h2⟩ => by subst h1; subst h2; exact k
end triples
end Go.Am
namespace Go.Am
open Go.RowKit
inductive DV where
  | int (k : IntKind) (n : Int)
  | bool (b : Bool)
  | str (s : List UInt8)
  | sl (sz n : Nat) (cells : List DV)
abbrev Mem := Nat → Option ABlk
def cellsAt (g : Mem) (o : Option (Nat × Nat)) (n : Nat) : Option (List AV) :=
  match o with
  | none => none
  | some (i, off) => match g i with
    | some (.cells l _) => if off + n ≤ l.length then some ((l.drop off).take n) else none
    | _ => none
mutual
def DAt (g : Mem) : DV → AV → Prop
  | .int k n, v => v = .int k n
  | .bool b, v => v = .bool b
  | .str s, v => v = .str s
  | .sl sz n cs, v => ∃ o c sz', v = .slice o n c sz' ∧ (n = 0 ∨ sz' = sz) ∧ (n = 0 ∨ ∃ l, cellsAt g o (n * sz) = some l ∧ DAtL g cs l) ∧ (o = none → n = 0)
def DAtL (g : Mem) : List DV → List AV → Prop
  | [], l => l = []
  | d :: ds, l => ∃ v r, l = v :: r ∧ DAt g d v ∧ DAtL g ds r
end
def Sub (g h : Mem) : Prop := ∀ i b, g i = some b → h i = some b
theorem Sub.refl (g : Mem) : Sub g g := fun _ _ e => e
theorem Sub.trans {a b c : Mem} (h : Sub a b) (k : Sub b c) : Sub a c := fun i x e => k i x (h i x e)
theorem cellsAt_sub {g h : Mem} (s : Sub g h) {o : Option (Nat × Nat)} {n : Nat} {l : List AV} (e : cellsAt g o n = some l) : cellsAt h o n = some l := by
  unfold cellsAt at e ⊢
  cases o with
  | none => cases e
  | some p =>
    obtain ⟨i, off⟩ := p
    simp only at e ⊢
    split at e
    · rename_i hg; simp only [s _ _ hg]; exact e
    · cases e
mutual
theorem DAt.sub {g h : Mem} (s : Sub g h) : ∀ (d : DV) (v : AV), DAt g d v → DAt h d v
  | .int .., _, e | .bool _, _, e | .str _, _, e => by simpa [DAt] using e
  | .sl sz n cs, v, e => by
    simp only [DAt] at e ⊢
    obtain ⟨o, c, sz', hv, h1, h2, h3⟩ := e
    exact ⟨o, c, sz', hv, h1, h2.imp_right fun ⟨l, a, b⟩ => ⟨l, cellsAt_sub s a, DAtL.sub s cs l b⟩, h3⟩
theorem DAtL.sub {g h : Mem} (s : Sub g h) : ∀ (ds : List DV) (l : List AV), DAtL g ds l → DAtL h ds l
  | [], _, e => by simpa [DAtL] using e
  | d :: ds, l, e => by
    simp only [DAtL] at e ⊢
    obtain ⟨v, r, hl, a, b⟩ := e
    exact ⟨v, r, hl, DAt.sub s d v a, DAtL.sub s ds r b⟩
end
section
variable {g : Mem}
theorem DAtL.nil_iff {l : List AV} : DAtL g [] l ↔ l = [] := by simp only [DAtL]
theorem DAtL.cons_iff {d : DV} {ds : List DV} {l : List AV} : DAtL g (d :: ds) l ↔ ∃ v r, l = v :: r ∧ DAt g d v ∧ DAtL g ds r := by simp only [DAtL]
theorem DAtL.length : ∀ {ds : List DV} {l : List AV}, DAtL g ds l → l.length = ds.length
  | [], l, h => by rw [DAtL.nil_iff.1 h]; rfl
  | d :: ds, l, h => by
    obtain ⟨v, r, rfl, _, hr⟩ := DAtL.cons_iff.1 h
    simp [DAtL.length hr]
theorem DAtL.append_iff : ∀ {a b : List DV} {l : List AV}, DAtL g (a ++ b) l ↔ ∃ x y, l = x ++ y ∧ DAtL g a x ∧ DAtL g b y
  | [], b, l => ⟨fun h => ⟨[], l, rfl, DAtL.nil_iff.2 rfl, h⟩, fun ⟨x, y, e, hx, hy⟩ => by rw [DAtL.nil_iff.1 hx] at e; rw [e]; exact hy⟩
  | d :: a, b, l => by
    constructor
    · intro h
      obtain ⟨v, r, rfl, hv, hr⟩ := DAtL.cons_iff.1 h
      obtain ⟨x, y, rfl, hx, hy⟩ := DAtL.append_iff.1 hr
      exact ⟨v :: x, y, rfl, DAtL.cons_iff.2 ⟨v, x, rfl, hv, hx⟩, hy⟩
    · rintro ⟨x, y, rfl, hx, hy⟩
      obtain ⟨v, r, rfl, hv, hr⟩ := DAtL.cons_iff.1 hx
      exact DAtL.cons_iff.2 ⟨v, r ++ y, rfl, hv, DAtL.append_iff.2 ⟨r, y, rfl, hr, hy⟩⟩
theorem DAtL.get {ds : List DV} {l : List AV} (h : DAtL g ds l) {i : Nat} {d : DV} (e : ds[i]? = some d) : ∃ v, l[i]? = some v ∧ DAt g d v := by
  induction ds generalizing l i with
  | nil => simp at e
  | cons a ds ih =>
    obtain ⟨v, r, rfl, hv, hr⟩ := DAtL.cons_iff.1 h
    cases i with
    | zero => simp only [List.getElem?_cons_zero, Option.some.injEq] at e; subst e; exact ⟨v, rfl, hv⟩
    | succ i => simpa using ih hr (by simpa using e)
theorem DAtL.take {ds : List DV} {l : List AV} (h : DAtL g ds l) (n : Nat) : DAtL g (ds.take n) (l.take n) := by
  induction ds generalizing l n with
  | nil => rw [DAtL.nil_iff.1 h]; simp [DAtL]
  | cons a ds ih =>
    obtain ⟨v, r, rfl, hv, hr⟩ := DAtL.cons_iff.1 h
    cases n with
    | zero => simp [DAtL]
    | succ n => exact DAtL.cons_iff.2 ⟨v, r.take n, rfl, hv, ih hr n⟩
theorem DAtL.drop {ds : List DV} {l : List AV} (h : DAtL g ds l) (n : Nat) : DAtL g (ds.drop n) (l.drop n) := by
  induction ds generalizing l n with
  | nil => rw [DAtL.nil_iff.1 h]; simp [DAtL]
  | cons a ds ih =>
    obtain ⟨v, r, rfl, hv, hr⟩ := DAtL.cons_iff.1 h
    cases n with
    | zero => exact DAtL.cons_iff.2 ⟨v, r, rfl, hv, hr⟩
    | succ n => exact ih hr n
end
end Go.Am
namespace Go.Am
open Go.RowKit
section
variable (Rs : Code → AC → Prop) (P : Program)
def CallK (d : Option Nat) (ts : List AV) (r : List It) (K : List AV → AState → Prop) : AV → AState → Prop := fun v σ => wpIts Rs P r (put d v ts) σ K
def SeqK (b : AC) (Q : Ex → List AV → AState → Prop) : Ex → List AV → AState → Prop
  | .normal, ts, σ => wpC Rs P b ts σ Q
  | .exit id, ts, σ => Q (.exit id) ts σ
  | .ret, ts, σ => Q .ret ts σ
def BlockK (id : Nat) (Q : Ex → List AV → AState → Prop) : Ex → List AV → AState → Prop
  | .normal, ts, σ => Q .normal ts σ
  | .exit i, ts, σ => if i = id then Q .normal ts σ else Q (.exit i) ts σ
  | .ret, ts, σ => Q .ret ts σ
end
section
variable {Rs : Code → AC → Prop} {P : Program}
theorem Yr (ts : List AV) (σ : AState) (K : List AV → AState → Prop) : wpIts Rs P [] ts σ K = K ts σ := rfl
def OpK (Rs : Code → AC → Prop) (P : Program) (d : Option Nat) (ts : List AV) (r : List It) (σ : AState) (K : List AV → AState → Prop) : Option (AV × List Eff) → Prop
  | some (v, es) => wpIts Rs P r (put d v ts) (σ.app es) K
  | none => False
theorem Ys (d : Option Nat) (o : AOp) (r : List It) (ts : List AV) (σ : AState) (K : List AV → AState → Prop) :
    wpIts Rs P (.op d none o :: r) ts σ K = OpK Rs P d ts r σ K (opA σ.get σ.next ts o) := by
  simp only [wpIts, wants, if_true]
  cases opA σ.get σ.next ts o <;> rfl
theorem Yt (d : Option Nat) (ts : List AV) (r : List It) (σ : AState) (K : List AV → AState → Prop) (v : AV) (es : List Eff) : OpK Rs P d ts r σ K (some (v, es)) = wpIts Rs P r (put d v ts) (σ.app es) K := rfl
theorem Yu (d : Option Nat) (ts : List AV) (r : List It) (σ : AState) (K : List AV → AState → Prop) : OpK Rs P d ts r σ K none = False := rfl
def GuK (Rs : Code → AC → Prop) (P : Program) (it : It) (d : Option Nat) (ts : List AV) (r : List It) (σ : AState) (K : List AV → AState → Prop) : Bool → Prop
  | true => wpIts Rs P (it :: r) ts σ K
  | false => wpIts Rs P r (put d U ts) σ K
theorem Yv (it : It) (d : Option Nat) (ts : List AV) (r : List It) (σ : AState) (K : List AV → AState → Prop) : GuK Rs P it d ts r σ K true = wpIts Rs P (it :: r) ts σ K := rfl
theorem Yw (it : It) (d : Option Nat) (ts : List AV) (r : List It) (σ : AState) (K : List AV → AState → Prop) : GuK Rs P it d ts r σ K false = wpIts Rs P r (put d U ts) σ K := rfl
theorem Wd (d : Option Nat) (g : Nat × Bool) (o : AOp) (r : List It) (ts : List AV) (σ : AState) (K : List AV → AState → Prop) :
    wpIts Rs P (.op d (some g) o :: r) ts σ K = GuK Rs P (.op d none o) d ts r σ K (wants ts (some g)) := by
  unfold wpIts
  cases h : wants ts (some g)
  · rw [if_neg (by decide)]; rfl
  · rw [if_pos rfl]; rfl
theorem Wb (d : Option Nat) (f : X) (az : List X) (r : List It) (ts : List AV) (σ : AState) (K : List AV → AState → Prop) :
    wpIts Rs P (.call d none f az :: r) ts σ K = RunV Rs P (f.ev ts) (az.map (X.ev ts)) σ (CallK Rs P d ts r K) := rfl
theorem We (d : Option Nat) (g : Nat × Bool) (f : X) (az : List X) (r : List It) (ts : List AV) (σ : AState) (K : List AV → AState → Prop) :
    wpIts Rs P (.call d (some g) f az :: r) ts σ K = GuK Rs P (.call d none f az) d ts r σ K (wants ts (some g)) := by
  unfold wpIts
  cases h : wants ts (some g)
  · rw [if_neg (by decide)]; rfl
  · rw [if_pos rfl]; rfl
theorem Wc (t : Nat) (o : AOp) (r : List It) (ts : List AV) (σ : AState) (K : List AV → AState → Prop) :
    wpIts Rs P (.again t none o :: r) ts σ K = (againOk σ.get σ.next ts t o ∧ wpIts Rs P r ts σ K) := by simp [wpIts, wants]
def AgK (Rs : Code → AC → Prop) (P : Program) (t : Nat) (o : AOp) (ts : List AV) (r : List It) (σ : AState) (K : List AV → AState → Prop) : Bool → Prop
  | true => wpIts Rs P (.again t none o :: r) ts σ K
  | false => wpIts Rs P r ts σ K
theorem Yx (t : Nat) (o : AOp) (ts : List AV) (r : List It) (σ : AState) (K : List AV → AState → Prop) : AgK Rs P t o ts r σ K true = wpIts Rs P (.again t none o :: r) ts σ K := rfl
theorem Yy (t : Nat) (o : AOp) (ts : List AV) (r : List It) (σ : AState) (K : List AV → AState → Prop) : AgK Rs P t o ts r σ K false = wpIts Rs P r ts σ K := rfl
theorem Wf (t : Nat) (g : Nat × Bool) (o : AOp) (r : List It) (ts : List AV) (σ : AState) (K : List AV → AState → Prop) :
    wpIts Rs P (.again t (some g) o :: r) ts σ K = AgK Rs P t o ts r σ K (wants ts (some g)) := by
  conv => lhs; unfold wpIts
  cases h : wants ts (some g)
  · simp only [Bool.false_eq_true, false_implies, true_and]; rfl
  · simp only [true_implies]; rw [Yx, Wc]
theorem Wu (d : Option Nat) (ts : List AV) (r : List It) (K : List AV → AState → Prop) (v : AV) (σ : AState) : CallK Rs P d ts r K v σ = wpIts Rs P r (put d v ts) σ K := rfl
theorem Wg (ts : List AV) (σ : AState) (Q : Ex → List AV → AState → Prop) : wpC Rs P .skip ts σ Q = Q .normal ts σ := rfl
theorem Wh (ts : List AV) (σ : AState) (Q : Ex → List AV → AState → Prop) : wpC Rs P .ret ts σ Q = Q .ret ts σ := rfl
theorem Wi (id : Nat) (ts : List AV) (σ : AState) (Q : Ex → List AV → AState → Prop) : wpC Rs P (.exit id) ts σ Q = Q (.exit id) ts σ := rfl
theorem Wj (l : List It) (ts : List AV) (σ : AState) (Q : Ex → List AV → AState → Prop) : wpC Rs P (.its l) ts σ Q = wpIts Rs P l ts σ (Q .normal) := rfl
theorem Wk (a b : AC) (ts : List AV) (σ : AState) (Q : Ex → List AV → AState → Prop) : wpC Rs P (.seq a b) ts σ Q = wpC Rs P a ts σ (SeqK Rs P b Q) := by
  simp only [wpC]
  congr 1
  funext e ts σ
  cases e <;> rfl
def CoK (Rs : Code → AC → Prop) (P : Program) (a b : AC) (ts : List AV) (σ : AState) (Q : Ex → List AV → AState → Prop) : AV → Prop
  | .bool true => wpC Rs P a ts σ Q
  | .bool false => wpC Rs P b ts σ Q
  | _ => False
theorem Yz (a b : AC) (ts : List AV) (σ : AState) (Q : Ex → List AV → AState → Prop) : CoK Rs P a b ts σ Q (.bool true) = wpC Rs P a ts σ Q := rfl
theorem Wa (a b : AC) (ts : List AV) (σ : AState) (Q : Ex → List AV → AState → Prop) : CoK Rs P a b ts σ Q (.bool false) = wpC Rs P b ts σ Q := rfl
theorem Wl (x : X) (a b : AC) (ts : List AV) (σ : AState) (Q : Ex → List AV → AState → Prop) : wpC Rs P (.cond x a b) ts σ Q = CoK Rs P a b ts σ Q (x.ev ts) := by
  simp only [wpC]
  cases x.ev ts <;> try rfl
  rename_i t
  cases t <;> rfl
theorem Wm (id : Nat) (b : AC) (ts : List AV) (σ : AState) (Q : Ex → List AV → AState → Prop) : wpC Rs P (.block id b) ts σ Q = wpC Rs P b ts σ (BlockK id Q) := by
  simp only [wpC]
  congr 1
  funext e ts σ
  cases e <;> rfl
theorem Wo (b : AC) (Q : Ex → List AV → AState → Prop) (ts : List AV) (σ : AState) : SeqK Rs P b Q .normal ts σ = wpC Rs P b ts σ Q := rfl
theorem Wp (b : AC) (Q : Ex → List AV → AState → Prop) (i : Nat) (ts : List AV) (σ : AState) : SeqK Rs P b Q (.exit i) ts σ = Q (.exit i) ts σ := rfl
theorem Wq (b : AC) (Q : Ex → List AV → AState → Prop) (ts : List AV) (σ : AState) : SeqK Rs P b Q .ret ts σ = Q .ret ts σ := rfl
theorem Wr (id : Nat) (Q : Ex → List AV → AState → Prop) (ts : List AV) (σ : AState) : BlockK id Q .normal ts σ = Q .normal ts σ := rfl
theorem Ws (id : Nat) (Q : Ex → List AV → AState → Prop) (i : Nat) (ts : List AV) (σ : AState) : BlockK id Q (.exit i) ts σ = if i = id then Q .normal ts σ else Q (.exit i) ts σ := rfl
theorem Wt (id : Nat) (Q : Ex → List AV → AState → Prop) (ts : List AV) (σ : AState) : BlockK id Q .ret ts σ = Q .ret ts σ := rfl
end
def RangeK (i : Nat) (ts : List AV) (Q : Ex → List AV → AState → Prop) : AV → AState → Prop := fun _ σ2 => match σ2.get i with
  | some (.loop st pend _ _ _ _) => st ≠ .busy ∧ (match pend with
    | none => Q .normal ts (σ2.kill i)
    | some e => Q e ts (σ2.kill i))
  | _ => False
theorem Wn {Rs : Code → AC → Prop} {P : Program} (x : X) (ps : List Nat) (a b : AC) (ts : List AV) (σ : AState) (Q : Ex → List AV → AState → Prop) :
    wpC Rs P (.rangef x ps a b) ts σ Q = RunV Rs P (x.ev ts) [.yieldf σ.next] (σ.push (.loop .ready none ts ps a b)) (RangeK σ.next ts Q) := rfl
theorem rangeK_ok {i : Nat} {ts : List AV} {Q : Ex → List AV → AState → Prop} {v : AV} {σ2 : AState} {ts2 : List AV} {ps : List Nat} {a b : AC} (h : σ2.get i = some (.loop .ready none ts2 ps a b)) : RangeK i ts Q v σ2 = Q .normal ts (σ2.kill i) := by
  simp [RangeK, h]
def wantsB (v : AV) (b : Bool) : Bool := match v with
  | .bool c => c == b
  | _ => false
theorem Vu (ts : List AV) (t : Nat) (b : Bool) : wants ts (some (t, b)) = wantsB (ts.getD t U) b := rfl
theorem Vv (c b : Bool) : wantsB (.bool c) b = (c == b) := rfl
theorem Vw (b : Bool) : wantsB U b = false := rfl
theorem Vx : (false == true) = false := rfl
theorem Vy : (true == false) = false := rfl
theorem Wx (a : AV) (l : List AV) (d : AV) : (a :: l).getD 0 d = a := rfl
theorem Wy (a : AV) (l : List AV) (n : Nat) (d : AV) : (a :: l).getD (n+1) d = l.getD n d := rfl
theorem Wv (ts : List AV) (i : Nat) : X.ev ts (.t i) = ts.getD i U := rfl
theorem Ww (ts : List AV) (v : AV) : X.ev ts (.c v) = v := rfl
theorem ev_g (ts : List AV) (i : Nat) : X.ev ts (.g i) = .ptr (some (i, 0)) := rfl
theorem Wz (i : Nat) (v : AV) (ts : List AV) : put (some i) v ts = ts.set i v := rfl
theorem Va (v : AV) (ts : List AV) : put none v ts = ts := rfl
theorem Vb (σ : AState) : σ.app [] = σ := rfl
theorem Vc (σ : AState) (e : Eff) (r : List Eff) : σ.app (e :: r) = (σ.eff e).app r := rfl
theorem Vd (σ : AState) (b : ABlk) : σ.eff (.push b) = σ.push b := rfl
theorem Ve (σ : AState) (i : Nat) (b : ABlk) : σ.eff (.set i b) = σ.set i b := rfl
theorem Vf (σ : AState) (i : Nat) : σ.eff (.kill i) = σ.kill i := rfl
section
variable {σ : AState} {i j : Nat} {b c : ABlk}
theorem Vg : (σ.push b).get σ.next = some b := by rw [AState.push_get, if_pos rfl]
theorem Vh (h : i < σ.next) : (σ.push b).get i = σ.get i := by rw [AState.push_get, if_neg (by omega)]
theorem Vi : σ.next < (σ.push b).next := Nat.lt_succ_self _
theorem Vj (h : i < σ.next) : i < (σ.push b).next := Nat.lt_succ_of_lt h
theorem Vk : (σ.set i b).get i = some b := by rw [AState.set_get, if_pos rfl]
theorem Vl (h : j ≠ i) : (σ.set i b).get j = σ.get j := by rw [AState.set_get, if_neg h]
theorem Vm (h : j ≠ i) : (σ.kill i).get j = σ.get j := by rw [AState.kill_get, if_neg h]
theorem Vo (h : i < σ.next) : (i = σ.next) = False := eq_false (by omega)
theorem Vp (h : i < σ.next) : (σ.next = i) = False := eq_false (by omega)
theorem Vq (h : i < j) : (i = j) = False := eq_false (by omega)
theorem Vr (h : j < i) : (i = j) = False := eq_false (by omega)
theorem Vs : ((σ.push b).next = σ.next) = False := eq_false (by rw [AState.push_next]; omega)
theorem Vt : (σ.next = (σ.push b).next) = False := eq_false (by rw [AState.push_next]; omega)
theorem Vn : (σ.push b).set σ.next c = σ.push c := by
  unfold AState.push AState.set
  congr 1
  funext k
  show (if k = σ.next then some c else if k = σ.next then some b else σ.get k) = if k = σ.next then some c else σ.get k
  split <;> rfl
end
theorem Za : ∀ {α : Type} {x : α} {xs : List α} {a : α}, List.set (x :: xs) 0 a = a :: xs := @List.set_cons_zero
theorem Zb : ∀ {α : Type} {x : α} {xs : List α} {i : Nat} {a : α}, List.set (x :: xs) (i + 1) a = x :: List.set xs i a := @List.set_cons_succ
theorem Zc : ∀ {α : Type} {a : α} {p q : List α}, a :: p ++ q = a :: (p ++ q) := @List.cons_append
theorem Zd : ∀ {α : Type} (p : List α), [] ++ p = p := @List.nil_append
theorem Ze : ∀ {α : Type} (p : List α), p ++ [] = p := @List.append_nil
theorem Zf : ∀ {α : Type} {a : α} {p : List α}, List.length (a :: p) = List.length p + 1 := @List.length_cons
theorem Zg : ∀ {α : Type}, List.length ([] : List α) = 0 := @List.length_nil
theorem Zh : ∀ {α β : Type} {f : α → β} {a : α} {l : List α}, List.map f (a :: l) = f a :: List.map f l := @List.map_cons
theorem Zi : ∀ {α β : Type} {f : α → β}, List.map f [] = [] := @List.map_nil
theorem Zj : ∀ (n : Nat), n ≤ n := @Nat.le_refl
theorem Zk : ∀ (n : Nat), 0 + n = n := @Nat.zero_add
theorem Zl : ∀ (n : Nat), n + 0 = n := @Nat.add_zero
theorem Zm : ∀ {α : Type} {l : List α}, List.drop 0 l = l := @List.drop_zero
theorem Zn : ∀ {α : Type} {a : α} {l : List α} {i : Nat}, List.drop (i + 1) (a :: l) = List.drop i l := @List.drop_succ_cons
theorem Zo : ∀ {α : Type} {a : α} {p : List α} {i : Nat}, List.take (i + 1) (a :: p) = a :: List.take i p := @List.take_succ_cons
theorem Zp : ∀ {α : Type} {l : List α}, List.take 0 l = [] := @List.take_zero
theorem Zq : ∀ {α : Type} {a : α} {l : List α}, (a :: l)[0]? = some a := @List.getElem?_cons_zero
theorem Zr : ∀ {α : Type} {a : α} {i : Nat} {l : List α}, (a :: l)[i + 1]? = l[i]? := @List.getElem?_cons_succ
theorem Zs : ∀ {α : Type} {i : Nat}, List.drop i ([] : List α) = [] := @List.drop_nil
theorem Zt : ∀ {α : Type} {i : Nat}, List.take i ([] : List α) = [] := @List.take_nil
theorem Zu : ∀ {α : Type} {a : α} {l : List α} {f : α → Bool}, List.all (a :: l) f = (f a && List.all l f) := @List.all_cons
theorem Zv : ∀ {α : Type} {f : α → Bool}, List.all [] f = true := @List.all_nil
theorem Zw : ∀ (b : Bool), (b && true) = b := @Bool.and_true
theorem Zx : ∀ (b : Bool), (true && b) = b := @Bool.true_and
theorem Zy : ∀ (b : Bool), (b && b) = b := @Bool.and_self
theorem Zz : ∀ {α β : Type} (a : α) (f : α → β), Option.map f (some a) = some (f a) := @Option.map_some
theorem Ya : ∀ {α β : Type} (f : α → β), Option.map f none = none := @Option.map_none
theorem Yb : (!true) = false := @Bool.not_true
theorem Yc : (!false) = true := @Bool.not_false
theorem Yd : (false = true) = False := @Bool.false_eq_true
theorem Ye : (true = false) = False := @Bool.true_eq_false
theorem Yf : ∀ (n : Nat), Int.toNat (n : Int) = n := @Int.toNat_natCast
theorem Yg : ∀ (n : Nat), 0 ≤ (n : Int) := @Int.natCast_nonneg
theorem Yh : ∀ {α : Type} {a b : α}, Option.getD (some a) b = a := @Option.getD_some
theorem Yi : ∀ {α : Type} {a : α}, Option.getD none a = a := @Option.getD_none
theorem Yj : ∀ {α : Type} [BEq α] [ReflBEq α] (a : α), (a == a) = true := @beq_self_eq_true
theorem Yk : ∀ {α : Type} [BEq α] [LawfulBEq α] (a : α), (a != a) = false := @bne_self_eq_false
theorem Yl : ∀ (n : Nat), 0 * n = 0 := @Nat.zero_mul
theorem Ym : Int.toNat 0 = 0 := @Int.toNat_zero
theorem Yn : ∀ (a : Int), a ≤ a := @Int.le_refl
theorem Yo : (¬False) = True := @not_false_eq_true
theorem Yp : ∀ (h : Decidable True), decide True = true := @decide_true
theorem Yq : ∀ (h : Decidable False), decide False = false := @decide_false
end Go.Am
namespace Go.Am
open Go.RowKit
set_option maxRecDepth 100000
def Elem (g : Mem) (sz : Nat) (ld : Option Nat) (o : Option (Nat × Nat)) (k : Nat) (v : AV) : Prop :=
  ∃ i off l w, o = some (i, off) ∧ g i = some (.cells l w) ∧ partA l (off + k * sz) ld = some v
theorem Elem.sub {g h : Mem} (s : Sub g h) {sz : Nat} {ld : Option Nat} {o : Option (Nat × Nat)} {k : Nat} {v : AV} (e : Elem g sz ld o k v) : Elem h sz ld o k v := by
  obtain ⟨i, off, l, w, h1, h2, h3⟩ := e
  exact ⟨i, off, l, w, h1, s _ _ h2, h3⟩
theorem wrap_i64 {n : Int} (h : -9223372036854775808 ≤ n ∧ n ≤ 9223372036854775807) : wrapF .i64 n = n := by
  rw [wrapF_eq, IntKind.wrap_i64]; omega
noncomputable def ixA : AC := .seq (.its ([.op (some 17) none (.mv (.t 5)), .op (some 4) none (.mv (.t 17))])) .ret
noncomputable def ixB (sz : Nat) (ld : Option Nat) : AC := .seq (.its ([.op (some 11) none (.mv (.t 1)), .op (some 12) none (.mv (.t 0)), .op (some 13) none (.mv (.t 5)), .op (some 14) none (.idxS sz (.t 12) (.t 13)), .op (some 15) none (.load ld (.t 14)), .call (some 16) none (.t 11) [.t 15]])) (.cond (.t 16) ixA .skip)
noncomputable def ixC (sz : Nat) (ld : Option Nat) : AC := .seq (.block 1 (.seq (.its ([.op (some 10) none (.mv (.t 8)), .op (some 5) none (.mv (.t 10))])) (ixB sz ld))) (.its ([.op (some 18) none (.bin .add (.t 8) (.c (.int .i64 1))), .op (some 8) none (.mv (.t 18))]))
noncomputable def ixD (sz : Nat) (ld : Option Nat) : AC := .seq (.its ([.op (some 9) none (.bin .lss (.t 8) (.t 7))])) (.seq (.cond (.t 9) .skip (.exit 0)) (ixC sz ld))
noncomputable def ixF (sz : Nat) (ld : Option Nat) : AFunc := ⟨19, [(4, none)], .seq (.its ([.op (some 4) none (.mv (.c (.int .i64 0)))])) (.seq (.seq (.its ([.op (some 6) none (.mv (.t 0)), .op (some 7) none (.len .slice (.t 6)), .op (some 8) none (.mv (.c (.int .i64 0)))])) (.block 0 (.loop (ixD sz ld)))) (.seq (.its ([.op (some 4) none (.mv (.c (.int .i64 (-1))))])) .ret))⟩
def ixInt {α : Type} (q : α → Bool) (xs : List α) : Int := match xs.findIdx? q with
  | some k => k
  | none => -1
theorem indexFunc_ok {P : Program} (hmix : P.follows .mixedOrders = true) {f sz : Nat} {ld : Option Nat} (hf : resF P f = some (ixF sz ld)) {σ : AState} {o : Option (Nat × Nat)} {n : Nat} {c : Option Nat} {z : Nat} {fv : AV} {α : Type} {xs : List α} {q : α → Bool}
    (hn : xs.length = n) (hb : n ≤ 4611686018427387904) (hz : n = 0 ∨ z = sz) (h : ∀ k x, xs[k]? = some x → ∃ v, Elem σ.get sz ld o k v ∧ RunV (RsOf P) P fv [v] σ (fun u σ' => u = .bool (q x) ∧ σ' = σ)) :
    RunF (RsOf P) P f [.slice o n c z, fv] σ (fun u σ' => u = .int .i64 (ixInt q xs) ∧ σ' = σ) := by
  refine runF_intro hmix hf ?_
  simp -implicitDefEqProofs (maxDischargeDepth := 15) only [Yr, Ys, Yt, Wj, Wk, Wm, Wo, opA, Wv, Ww, Wx, Wy, Wz, Za, Zb, List.replicate, Zc, Zd, Ze, Vb, Zf, Zg, Nat.reduceAdd, Nat.reduceSub, Zk, ixF]
  refine wp_loop (fun ts σ' m => ∃ k : Nat, σ' = σ ∧ k + m = n ∧ (∀ i x, i < k → xs[i]? = some x → q x = false) ∧ ∃ j2 j3 j5 j9 j10 j11 j12 j13 j14 j15 j16 j17 j18 : AV, ts = [.slice o n c z, fv, j2, j3, .int .i64 0, j5, .slice o n c z, .int .i64 n, .int .i64 k, j9, j10, j11, j12, j13, j14, j15, j16, j17, j18]) n ⟨0, rfl, by omega, fun i x hi => by omega, _, _, _, _, _, _, _, _, _, _, _, _, _, rfl⟩ ?_
  rintro m ts σ' ⟨k, rfl, hk, hq, j2, j3, j5, j9, j10, j11, j12, j13, j14, j15, j16, j17, j18, rfl⟩
  by_cases hlt : k < n
  · obtain ⟨x, hx⟩ : ∃ x, xs[k]? = some x := ⟨xs[k]'(by omega), List.getElem?_eq_getElem _⟩
    obtain ⟨v, ⟨i, off, l, w, rfl, hg, hp⟩, hrun⟩ := h k x hx
    have hzz : z = sz := by
      rcases hz with e | e
      · omega
      · exact e
    subst hzz
    have hd : decide ((k : Int) < n) = true := decide_eq_true (by omega)
    simp -implicitDefEqProofs (maxDischargeDepth := 15) only [↓reduceIte, Yr, Ys, Yt, Yz, Wg, Wh, Wj, Wk, Wl, Wm, Wo, Wp, Wq, Ws, Wt, opA, Wv, Ww, Wx, Wy, Wz, Za, Zb, Vb, binA, true_and, EndOk, resultA, oneOf, Zz, Yf, Yg, eq_self, ixD, ixC, ixB, hd]
    simp only [partA] at hp
    have e1 : (0 : Int) ≤ (k : Int) ∧ (k : Int) < (n : Int) := by omega
    simp -implicitDefEqProofs (maxDischargeDepth := 15) only [↓reduceIte, Ys, Yt, Wb, opA, Wv, Wx, Wy, Wz, Za, Zb, Vb, partA, Zh, Zi, e1, hg, hp]
    refine RunV.to hrun ?_
    cases hqx : q x
    · simp -implicitDefEqProofs (maxDischargeDepth := 15) only [↓reduceIte, Yr, Ys, Yt, Wa, Wg, Wj, Wl, Wo, Wr, Wu, opA, Wv, Ww, Wx, Wy, Wz, Za, Zb, Vb, binA, true_and, eq_self]
      refine ⟨m - 1, by omega, k + 1, by omega, fun i y hi hy => ?_, ?_⟩
      · by_cases e : i = k
        · subst e; rw [hx] at hy; cases hy; exact hqx
        · exact hq i y (by omega) hy
      · rw [wrap_i64 (by omega)]
        exact ⟨_, _, _, _, _, _, _, _, _, _, _, _, _, rfl⟩
    · simp -implicitDefEqProofs (maxDischargeDepth := 15) only [Yr, Ys, Yt, Yz, Wh, Wj, Wk, Wl, Wo, Wq, Wt, Wu, opA, Wv, Wx, Wy, Wz, Za, Zb, Vb, and_true, eq_self, ixA]
      have : xs.findIdx? q = some k := by
        rw [List.findIdx?_eq_some_iff_getElem]
        refine ⟨by omega, ?_, fun j hj => ?_⟩
        · rw [List.getElem?_eq_getElem (by omega)] at hx; cases hx; exact hqx
        · simpa using hq j _ hj (List.getElem?_eq_getElem (by omega))
      simp [ixInt, this]
  · have hd : decide ((k : Int) < n) = false := decide_eq_false (by omega)
    simp -implicitDefEqProofs (maxDischargeDepth := 15) only [↓reduceIte, Yr, Ys, Yt, Wa, Wh, Wi, Wj, Wk, Wl, Wo, Wp, Wq, Ws, Wt, opA, Wv, Ww, Wx, Wy, Wz, Za, Zb, Vb, binA, and_true, EndOk, resultA, oneOf, Zz, eq_self, ixD, hd]
    have : xs.findIdx? q = none := by
      rw [List.findIdx?_eq_none_iff]
      intro x hx
      obtain ⟨j, hj, rfl⟩ := List.getElem_of_mem hx
      exact hq j _ (by omega) (List.getElem?_eq_getElem hj)
    simp [ixInt, this]
noncomputable def cfF (g : Nat) : AFunc := ⟨9, [(4, none)], .seq (.its ([.op (some 4) none (.mv (.c (.bool false)))])) (.seq (.its (.op (some 5) none (.mv (.t 0)) :: .op (some 6) none (.mv (.t 1)) :: .call (some 7) none (.c (.func (.func g) [] [])) [.t 5, .t 6] :: [.op (some 8) none (.bin .geq (.t 7) (.c (.int .i64 0))), .op (some 4) none (.mv (.t 8))])) .ret)⟩
theorem ixInt_ge {α : Type} (q : α → Bool) (xs : List α) : decide (ixInt q xs ≥ 0) = xs.any q := by
  unfold ixInt
  cases h : xs.findIdx? q with
  | none =>
    rw [List.findIdx?_eq_none_iff] at h
    have : xs.any q = false := by
      rw [List.any_eq_false]; intro x hx; simp [h x hx]
    rw [this]; rfl
  | some k =>
    rw [List.findIdx?_eq_some_iff_getElem] at h
    obtain ⟨hk, h1, _⟩ := h
    have : xs.any q = true := List.any_eq_true.2 ⟨_, List.getElem_mem hk, h1⟩
    rw [this]; exact decide_eq_true (by show (0 : Int) ≤ (k : Int); omega)
theorem containsFunc_ok {P : Program} (hmix : P.follows .mixedOrders = true) {f g sz : Nat} {ld : Option Nat} (hf : resF P f = some (cfF g)) (hg : resF P g = some (ixF sz ld)) {σ : AState} {o : Option (Nat × Nat)} {n : Nat} {c : Option Nat} {z : Nat} {fv : AV} {α : Type} {xs : List α} {q : α → Bool}
    (hn : xs.length = n) (hb : n ≤ 4611686018427387904) (hz : n = 0 ∨ z = sz) (h : ∀ k x, xs[k]? = some x → ∃ v, Elem σ.get sz ld o k v ∧ RunV (RsOf P) P fv [v] σ (fun u σ' => u = .bool (q x) ∧ σ' = σ)) :
    RunF (RsOf P) P f [.slice o n c z, fv] σ (fun u σ' => u = .bool (xs.any q) ∧ σ' = σ) := by
  refine runF_intro hmix hf ?_
  simp -implicitDefEqProofs (maxDischargeDepth := 15) only [Yr, Ys, Yt, Wb, Wj, Wk, Wo, opA, Wv, Ww, Wx, Wy, Wz, Za, Zb, List.replicate, Zc, Zd, Ze, Vb, Zf, Zg, Zh, Zi, Nat.reduceAdd, Nat.reduceSub, Zk, cfF]
  refine RunV.to (indexFunc_ok hmix hg hn hb hz h) ?_
  simp -implicitDefEqProofs (maxDischargeDepth := 15) only [↓reduceIte, Yr, Ys, Yt, Wh, Wo, Wu, opA, Wv, Ww, Wx, Wy, Wz, Za, Zb, Vb, binA, and_self, EndOk, resultA, oneOf, Zz, eq_self, ixInt_ge]
def Strs (g : Mem) (o : Option (Nat × Nat)) (n z : Nat) (ss : List (List UInt8)) : Prop :=
  (o = none ∧ n = 0 ∧ ss = []) ∨ (ss.length = n ∧ z = 1 ∧ ∃ i off l w, o = some (i, off) ∧ g i = some (.cells l w) ∧ off + n ≤ l.length ∧ (l.drop off).take n = ss.map .str)
theorem Strs.sub {g h : Mem} (s : Sub g h) {o : Option (Nat × Nat)} {n z : Nat} {ss : List (List UInt8)} (e : Strs g o n z ss) : Strs h o n z ss :=
  e.imp_right fun ⟨a, b, i, off, l, w, h1, h2, h3⟩ => ⟨a, b, i, off, l, w, h1, s _ _ h2, h3⟩
theorem Strs.len {g : Mem} {o : Option (Nat × Nat)} {n z : Nat} {ss : List (List UInt8)} (e : Strs g o n z ss) : ss.length = n := by
  rcases e with ⟨_, h, rfl⟩ | ⟨h, _⟩
  · exact h.symm
  · exact h
theorem Strs.elem {g : Mem} {o : Option (Nat × Nat)} {n z : Nat} {ss : List (List UInt8)} (e : Strs g o n z ss) {k : Nat} {x : List UInt8} (hx : ss[k]? = some x) : z = 1 ∧ ∃ i off l w, o = some (i, off) ∧ g i = some (.cells l w) ∧ l[off + k]? = some (.str x) := by
  have hk : k < ss.length := by
    rcases Nat.lt_or_ge k ss.length with q | q
    · exact q
    · rw [List.getElem?_eq_none q] at hx; cases hx
  rcases e with ⟨_, h, rfl⟩ | ⟨a, b, i, off, l, w, h1, h2, h3, h4⟩
  · cases hx
  refine ⟨b, i, off, l, w, h1, h2, ?_⟩
  have : ((l.drop off).take n)[k]? = some (.str x) := by rw [h4, List.getElem?_map, hx]; rfl
  rw [List.getElem?_take_of_lt (by omega), List.getElem?_drop] at this
  exact this
theorem Strs.first {g : Mem} {o : Option (Nat × Nat)} {n z : Nat} {c : Option Nat} {ss : List (List UInt8)} (e : Strs g o n z ss) : firstA g 1 n (.slice o n c z) = some (ss.map .str) := by
  rcases e with ⟨rfl, rfl, rfl⟩ | ⟨a, b, i, off, l, w, rfl, h2, h3, h4⟩
  · simp [firstA]
  · simp only [firstA, h2, Nat.mul_one]
    rw [if_pos h3, h4]
theorem toStrs_map : ∀ (ss : List (List UInt8)), toStrs (ss.map .str) = some ss
  | [] => rfl
  | s :: r => by simp only [List.map_cons, toStrs, toStrs_map r]
end Go.Am
namespace Go.Am.Do
abbrev Str := List UInt8
inductive T where
  | mk (var : Bool) (name : Str) (args : List T)
inductive F where
  | mk (op : Nat) (name : Str) (args : List T) (sub : List F)
def jn (l : List Str) (sep : Str) : Str := sep.intercalate l
theorem jn_nil (s : Str) : jn [] s = [] := rfl
theorem jn_one (x s : Str) : jn [x] s = x := by simp [jn, List.intercalate]
theorem jn_cons2 (x y : Str) (r : List Str) (s : Str) : jn (x :: y :: r) s = x ++ s ++ jn (y :: r) s := by simp [jn, List.intercalate]
abbrev wOf : Str := [111, 102]
abbrev wClose : Str := [99, 108, 111, 115, 101]
abbrev wAnd : Str := [97, 110, 100]
abbrev sAnd : Str := [32, 97, 110, 100, 32]
abbrev sp : Str := [32]
abbrev wFor : Str := [102, 111, 114]
abbrev wAll : Str := [97, 108, 108]
abbrev wSome : Str := [115, 111, 109, 101]
abbrev sForAll : Str := [102, 111, 114, 32, 97, 108, 108]
abbrev sForSome : Str := [102, 111, 114, 32, 115, 111, 109, 101]
def pats : List (Nat × Str × Str) := [
  (2, [102, 97, 108, 115, 101], []),
  (3, [110, 111, 116], []),
  (10, [110, 101, 99, 101, 115, 115, 97, 114, 105, 108, 121], []),
  (11, [112, 111, 115, 115, 105, 98, 108, 121], []),
  (12, [110, 101, 120, 116], []),
  (13, [97, 108, 119, 97, 121, 115], []),
  (4, [98, 111, 116, 104], [97, 110, 100]),
  (5, [101, 105, 116, 104, 101, 114], [111, 114]),
  (6, [105, 102], [116, 104, 101, 110]),
  (7, [97, 115], [115, 111]),
  (14, [119, 104, 105, 108, 101], [117, 110, 116, 105, 108])]
def pat (op : Nat) : Str × Str := match pats.find? (fun p => p.1 == op) with
  | some p => p.2
  | none => ([], [])
mutual
def T.txt : T → Str
  | .mk _ n [] => n
  | .mk _ n (a :: az) => jn [n, wOf, jn (a.txt :: T.txts az) sAnd, wClose] sp
def T.txts : List T → List Str
  | [] => []
  | t :: r => t.txt :: T.txts r
end
def headTxt (n : Str) (az : List T) : Str := match az with
  | [] => n
  | _ => jn [n, wOf, jn (T.txts az) sAnd, wClose] sp
def F.head : F → Str × Str
  | .mk op n az _ => if op = 1 then (headTxt n az, []) else if op = 8 then (jn [sForAll, n] sp, []) else if op = 9 then (jn [sForSome, n] sp, []) else pat op
def F.sub : F → List F
  | .mk _ _ _ l => l
mutual
def F.txt : F → Str
  | .mk op n az l => match F.txts l with
    | [x] => jn [(F.mk op n az l).head.1, x] sp
    | [x, y] => jn [(F.mk op n az l).head.1, x, (F.mk op n az l).head.2, y] sp
    | _ => (F.mk op n az l).head.1
def F.txts : List F → List Str
  | [] => []
  | f :: r => f.txt :: F.txts r
end
def Nice (w : Str) : Prop := w ≠ [] ∧ (32 : UInt8) ∉ w
instance (w : Str) : Decidable (Nice w) := inferInstanceAs (Decidable (_ ∧ _))
mutual
def T.ws : T → List Str
  | .mk _ n [] => [n]
  | .mk _ n (a :: az) => n :: wOf :: (a.ws ++ T.wsr az)
def T.wsr : List T → List Str
  | [] => [wClose]
  | t :: r => wAnd :: (t.ws ++ T.wsr r)
end
def headWs (n : Str) (az : List T) : List Str := match az with
  | [] => [n]
  | a :: r => n :: wOf :: (a.ws ++ T.wsr r)
def F.hws : F → List Str
  | .mk op n az _ => if op = 1 then headWs n az else if op = 8 then [wFor, wAll, n] else if op = 9 then [wFor, wSome, n] else [(pat op).1]
mutual
def F.ws : F → List Str
  | .mk op n az l => (F.mk op n az l).hws ++ F.wss (pat op).2 l
def F.wss (b : Str) : List F → List Str
  | [] => []
  | [x] => x.ws
  | x :: y :: r => x.ws ++ b :: F.wss b (y :: r)
end
mutual
def T.ok : T → Prop
  | .mk _ n az => Nice n ∧ T.oks az
def T.oks : List T → Prop
  | [] => True
  | t :: r => t.ok ∧ T.oks r
end
def NoBtw (w : Str) : Prop := w ∉ [[97, 110, 100], [111, 114], [116, 104, 101, 110], [115, 111], [117, 110, 116, 105, 108]]
mutual
def F.ok : F → Prop
  | .mk op n az l => F.oks l ∧ ((op = 1 ∧ Nice n ∧ NoBtw n ∧ T.oks az ∧ l = []) ∨ (op = 2 ∧ l = []) ∨ ((op = 3 ∨ op = 10 ∨ op = 11 ∨ op = 12 ∨ op = 13) ∧ ∃ a, l = [a]) ∨
      ((op = 4 ∨ op = 5 ∨ op = 6 ∨ op = 7 ∨ op = 14) ∧ ∃ a b, l = [a, b]) ∨ ((op = 8 ∨ op = 9) ∧ Nice n ∧ ∃ a, l = [a]))
def F.oks : List F → Prop
  | [] => True
  | f :: r => f.ok ∧ F.oks r
end
def Nices (l : List Str) : Prop := ∀ w ∈ l, Nice w
theorem Nices.append {a b : List Str} (h : Nices a) (k : Nices b) : Nices (a ++ b) := fun w hw => by
  rcases List.mem_append.1 hw with q | q
  · exact h w q
  · exact k w q
theorem Nices.cons {x : Str} {b : List Str} (h : Nice x) (k : Nices b) : Nices (x :: b) := fun w hw => by
  rcases List.mem_cons.1 hw with q | q
  · subst q; exact h
  · exact k w q
theorem Nices.nil : Nices [] := fun _ h => by cases h
theorem nice_of : Nice wOf := by decide
theorem nice_close : Nice wClose := by decide
theorem nice_and : Nice wAnd := by decide
theorem jn_append {a b : List Str} (s : Str) (ha : a ≠ []) (hb : b ≠ []) : jn (a ++ b) s = jn a s ++ s ++ jn b s := by
  induction a with
  | nil => exact absurd rfl ha
  | cons x r ih =>
    cases r with
    | nil =>
      cases b with
      | nil => exact absurd rfl hb
      | cons y b => rw [List.singleton_append, jn_cons2, jn_one]
    | cons z r =>
      rw [List.cons_append, List.cons_append, jn_cons2, ← List.cons_append, ih (by simp), jn_cons2]
      simp [List.append_assoc]
mutual
theorem T.ws_ne : ∀ t : T, t.ws ≠ []
  | .mk _ n [] => by simp [T.ws]
  | .mk _ n (a :: az) => by simp [T.ws]
end
theorem T.wsr_ne : ∀ l : List T, T.wsr l ≠ []
  | [] => by simp [T.wsr]
  | t :: r => by simp [T.wsr]
theorem jn_to (x : Str) {l : List Str} (h : l ≠ []) : jn (x :: l) sp = x ++ sp ++ jn l sp := by
  cases l with
  | nil => exact absurd rfl h
  | cons y r => exact jn_cons2 x y r sp
theorem jn_and (x : Str) (r : List Str) : jn (x :: r) sAnd = x ++ (r.map (sAnd ++ ·)).flatten := by
  induction r generalizing x with
  | nil => simp [jn_one]
  | cons y r ih => rw [jn_cons2, ih]; simp
mutual
theorem T.txt_ws : ∀ t : T, t.txt = jn t.ws sp
  | .mk _ n [] => by simp [T.txt, T.ws, jn_one]
  | .mk _ n (a :: az) => by
    have h1 := T.txt_ws a
    have h2 := T.txts_ws az
    simp only [T.txt, T.ws]
    rw [jn_and, jn_cons2, jn_cons2, jn_cons2, jn_one, jn_cons2, jn_to wOf (by simp [T.ws_ne]), jn_append sp (T.ws_ne a) (T.wsr_ne az), List.append_assoc (jn a.ws sp) sp, ← h2, ← h1]
    simp [List.append_assoc]
theorem T.txts_ws : ∀ l : List T, ((T.txts l).map (sAnd ++ ·)).flatten ++ sp ++ wClose = sp ++ jn (T.wsr l) sp
  | [] => by simp [T.txts, T.wsr, jn_one]
  | t :: r => by
    have h1 := T.txt_ws t
    have h2 := T.txts_ws r
    simp only [T.txts, T.wsr, List.map_cons, List.flatten_cons]
    rw [jn_to wAnd (by simp [T.ws_ne]), jn_append sp (T.ws_ne t) (T.wsr_ne r), List.append_assoc (jn t.ws sp) sp]
    have : sAnd ++ t.txt ++ ((T.txts r).map (sAnd ++ ·)).flatten ++ sp ++ wClose = sAnd ++ t.txt ++ (((T.txts r).map (sAnd ++ ·)).flatten ++ sp ++ wClose) := by simp [List.append_assoc]
    rw [this, h2, h1]
    simp [List.append_assoc]
end
theorem headTxt_ws (n : Str) (az : List T) : headTxt n az = jn (headWs n az) sp := by
  cases az with
  | nil => simp [headTxt, headWs, jn_one]
  | cons a r => exact T.txt_ws (.mk false n (a :: r))
theorem headWs_ne (n : Str) (az : List T) : headWs n az ≠ [] := by cases az <;> simp [headWs]
theorem F.hws_ne : ∀ f : F, f.hws ≠ []
  | .mk op n az l => by
    simp only [F.hws]
    split
    · exact headWs_ne n az
    · split
      · simp
      · split <;> simp
theorem F.head_ws : ∀ f : F, f.head.1 = jn f.hws sp
  | .mk op n az l => by
    simp only [F.hws, F.head]
    split
    · exact headTxt_ws n az
    · split
      · simp [jn_cons2, jn_one]
      · split
        · simp [jn_cons2, jn_one]
        · simp [jn_one]
mutual
theorem T.ws_nice : ∀ t : T, t.ok → Nices t.ws
  | .mk _ n [], h => by simp only [T.ok] at h; exact .cons h.1 .nil
  | .mk _ n (a :: az), h => by
    simp only [T.ok, T.oks] at h
    exact .cons h.1 (.cons nice_of ((T.ws_nice a h.2.1).append (T.wsr_nice az h.2.2)))
theorem T.wsr_nice : ∀ l : List T, T.oks l → Nices (T.wsr l)
  | [], _ => .cons nice_close .nil
  | t :: r, h => by
    simp only [T.oks] at h
    exact .cons nice_and ((T.ws_nice t h.1).append (T.wsr_nice r h.2))
end
theorem headWs_nice {n : Str} {az : List T} (hn : Nice n) (ha : T.oks az) : Nices (headWs n az) := by
  cases az with
  | nil => exact .cons hn .nil
  | cons a r => simp only [T.oks] at ha; exact .cons hn (.cons nice_of ((T.ws_nice a ha.1).append (T.wsr_nice r ha.2)))
theorem F.hws_nice : ∀ f : F, f.ok → Nices f.hws
  | .mk op n az l, h => by
    simp only [F.ok] at h
    obtain ⟨_, ⟨rfl, hn, _, ha, _⟩ | ⟨rfl, _⟩ | ⟨h | h | h | h | h, _⟩ | ⟨h | h | h | h | h, _⟩ | ⟨h | h, hn, _⟩⟩ := h
    · simpa [F.hws] using headWs_nice hn ha
    · simp only [F.hws]; exact .cons (by decide) .nil
    all_goals (subst h; simp only [F.hws])
    iterate 10 exact .cons (by decide) .nil
    · exact .cons (by decide) (.cons (by decide) (.cons hn .nil))
    · exact .cons (by decide) (.cons (by decide) (.cons hn .nil))
mutual
theorem F.ws_nice : ∀ f : F, f.ok → Nices f.ws
  | .mk op n az l, h => by
    have h0 := F.hws_nice _ h
    simp only [F.ok] at h
    have hl := h.1
    simp only [F.ws]
    refine h0.append ?_
    by_cases hb : Nice (pat op).2
    · exact F.wss_nice _ l (.inr hb) hl
    · refine F.wss_nice _ l (.inl ?_) hl
      obtain ⟨_, ⟨_, _, _, _, h⟩ | ⟨_, h⟩ | ⟨_, a, h⟩ | ⟨h | h | h | h | h, _⟩ | ⟨_, _, a, h⟩⟩ := h
      · simp [h]
      · simp [h]
      · simp [h]
      · exact absurd (by subst h; decide) hb
      · exact absurd (by subst h; decide) hb
      · exact absurd (by subst h; decide) hb
      · exact absurd (by subst h; decide) hb
      · exact absurd (by subst h; decide) hb
      · simp [h]
theorem F.wss_nice (b : Str) : ∀ l : List F, (hb : l.length ≤ 1 ∨ Nice b) → F.oks l → Nices (F.wss b l)
  | [], _, _ => .nil
  | [x], _, h => by simp only [F.oks] at h; simpa [F.wss] using F.ws_nice x h.1
  | x :: y :: r, hb, h => by
    have hb' : Nice b := by
      rcases hb with q | q
      · simp at q
      · exact q
    simp only [F.oks] at h
    simp only [F.wss]
    exact (F.ws_nice x h.1).append (.cons hb' (F.wss_nice b (y :: r) (.inr hb') (by simp only [F.oks]; exact h.2)))
end
theorem F.ws_ne : ∀ f : F, f.ws ≠ []
  | .mk op n az l => by
    simp only [F.ws]
    exact List.append_ne_nil_of_left_ne_nil (F.hws_ne _) _
theorem F.txt_ws : ∀ f : F, f.ok → f.txt = jn f.ws sp
  | .mk op n az l, h => by
    have hh := F.head_ws (.mk op n az l)
    have hne := F.hws_ne (.mk op n az l)
    have h' := h
    simp only [F.ok] at h
    match l, h with
    | [], h => simp only [F.txt, F.txts, F.ws, F.wss, List.append_nil]; exact hh
    | [x], h =>
      have hx : x.ok := by simpa only [F.oks, and_true] using h.1
      have ih := F.txt_ws x hx
      simp only [F.txt, F.txts, F.ws, F.wss]
      rw [jn_cons2, jn_one, hh, jn_append sp hne (F.ws_ne x), ih]
    | [x, y], h =>
      have hx : x.ok := by have := h.1; simp only [F.oks] at this; exact this.1
      have hy : y.ok := by have := h.1; simp only [F.oks] at this; exact this.2.1
      have ih := F.txt_ws x hx
      have ih2 := F.txt_ws y hy
      have hb : (F.mk op n az [x, y]).head.2 = (pat op).2 := by
        obtain ⟨_, ⟨_, _, _, _, q⟩ | ⟨_, q⟩ | ⟨_, a, q⟩ | ⟨q | q | q | q | q, _⟩ | ⟨_, _, a, q⟩⟩ := h
        · cases q
        · cases q
        · cases q
        · subst q; rfl
        · subst q; rfl
        · subst q; rfl
        · subst q; rfl
        · subst q; rfl
        · cases q
      simp only [F.txt, F.txts, F.ws, F.wss]
      rw [jn_cons2, jn_cons2, jn_cons2, jn_one, hh, hb, jn_append sp hne (by simp), jn_append sp (F.ws_ne x) (by simp), jn_to _ (F.ws_ne y), ih, ih2]
    | x :: y :: z :: r, h =>
      exfalso
      obtain ⟨_, ⟨_, _, _, _, q⟩ | ⟨_, q⟩ | ⟨_, a, q⟩ | ⟨_, a, b, q⟩ | ⟨_, _, a, q⟩⟩ := h <;> cases q
def enc (l : List Str) : Str := (l.map (· ++ sp)).flatten
def Stands (words : List Str) (at' : Nat) (l : List Str) : Prop := words.drop at' = l
theorem Stands.next {words : List Str} {at' : Nat} {a b : List Str} (h : Stands words at' (a ++ b)) : Stands words (at' + a.length) b := by
  unfold Stands at *
  rw [← List.drop_drop, h]
  simp
theorem Stands.lt {words : List Str} {at' : Nat} {a : Str} {b : List Str} (h : Stands words at' (a :: b)) : at' < words.length := by
  unfold Stands at h
  rcases Nat.lt_or_ge at' words.length with q | q
  · exact q
  · rw [List.drop_eq_nil_of_le q] at h; cases h
section good
variable {cnt : Str → Nat} (hc : ∀ l : List Str, l ≠ [] → Nices l → cnt (jn l sp) = l.length) {words : List Str} {fin : Nat}
include hc
end good
end Go.Am.Do
namespace Go.Am.Do
def isSmall (b : UInt8) : Bool := 97 ≤ b && b ≤ 122
def isCap (b : UInt8) : Bool := 65 ≤ b && b ≤ 90
def isDigit (b : UInt8) : Bool := 48 ≤ b && b ≤ 57
def isLetter (b : UInt8) : Bool := isSmall b || isCap b || isDigit b
def firstVar (b : UInt8) : Bool := 117 ≤ b && b ≤ 122
def firstFun (b : UInt8) : Bool := 97 ≤ b && b ≤ 116
def barred : List Str := [[97, 108, 108], [115, 111, 109, 101], [102, 97, 108, 115, 101], [110, 101, 120, 116], [97, 108, 119, 97, 121, 115], [117, 110, 116, 105, 108]]
def nameB (first rest : UInt8 → Bool) : Str → Bool
  | [] => false
  | c :: r => (c :: r).length ≤ 16 && first c && !barred.contains (c :: r) && r.all rest
def predB : Str → Bool := nameB isCap isLetter
def funB : Str → Bool := nameB firstFun isLetter
def varB : Str → Bool := nameB firstVar isDigit
mutual
def T.right : T → Bool
  | .mk true n az => az.isEmpty && varB n
  | .mk false n az => funB n && az.length ≤ 4 && T.rights az
def T.rights : List T → Bool
  | [] => true
  | t :: r => t.right && T.rights r
end
def row (op : Nat) : Option (Nat × Nat × Nat) :=
  if op = 1 then some (1, 4, 0) else if op = 2 then some (0, 0, 0)
  else if op = 3 ∨ op = 10 ∨ op = 11 ∨ op = 12 ∨ op = 13 then some (0, 0, 1)
  else if op = 4 ∨ op = 5 ∨ op = 6 ∨ op = 7 ∨ op = 14 then some (0, 0, 2)
  else if op = 8 ∨ op = 9 then some (2, 0, 1) else none
def nameK (k : Nat) (n : Str) : Bool := if k = 1 then predB n else if k = 2 then varB n else n.isEmpty
mutual
def F.shape : F → Bool
  | .mk op n az l => match row op with
    | none => false
    | some (k, a, s) => nameK k n && az.length ≤ a && l.length == s && T.rights az && F.shapes l
def F.shapes : List F → Bool
  | [] => true
  | f :: r => f.shape && F.shapes r
end
mutual
def T.cnt : T → Nat
  | .mk _ _ az => T.cnts az + 1
def T.cnts : List T → Nat
  | [] => 0
  | t :: r => t.cnt + T.cnts r
end
mutual
def F.nodes : F → Nat
  | .mk _ _ az l => 1 + T.cnts az + F.nodess l
def F.nodess : List F → Nat
  | [] => 0
  | f :: r => f.nodes + F.nodess r
end
mutual
def T.high : T → Nat
  | .mk _ _ az => 1 + T.highs az
def T.highs : List T → Nat
  | [] => 0
  | t :: r => max t.high (T.highs r)
end
mutual
def F.depth : F → Nat
  | .mk _ _ az l => max (T.highs az) (F.depths l) + 1
def F.depths : List F → Nat
  | [] => 0
  | f :: r => max f.depth (F.depths r)
end
def F.right (f : F) : Bool := f.nodes ≤ 400 && f.depth ≤ 40 && f.shape
theorem nameB_nice {first rest : UInt8 → Bool} (hf : first 32 = false) (hr : rest 32 = false) {n : Str} (h : nameB first rest n = true) : Nice n := by
  cases n with
  | nil => simp [nameB] at h
  | cons c r =>
    simp only [nameB, Bool.and_eq_true] at h
    refine ⟨by simp, fun hm => ?_⟩
    rcases List.mem_cons.1 hm with q | q
    · rw [← q, hf] at h; simp at h
    · have := List.all_eq_true.1 h.2 _ q
      rw [hr] at this; cases this
theorem pred_nice {n : Str} (h : predB n = true) : Nice n := nameB_nice (first := isCap) (rest := isLetter) (by decide) (by decide) h
theorem var_nice {n : Str} (h : varB n = true) : Nice n := nameB_nice (first := firstVar) (rest := isDigit) (by decide) (by decide) h
theorem two_of {α : Type} {l : List α} (h : l.length = 2) : ∃ a b, l = [a, b] := by
  match l, h with
  | [a, b], _ => exact ⟨a, b, rfl⟩
theorem pred_btw {n : Str} (h : predB n = true) : NoBtw n := by
  cases n with
  | nil => simp [predB, nameB] at h
  | cons c r =>
    simp only [predB, nameB, Bool.and_eq_true] at h
    have hc := h.1.1.2
    unfold NoBtw
    intro hm
    simp only [List.mem_cons, List.cons.injEq, List.not_mem_nil, or_false] at hm
    rcases hm with q | q | q | q | q <;> (rw [q.1] at hc; revert hc; decide)
mutual
theorem T.right_ok : ∀ t : T, t.right = true → t.ok
  | .mk true n az, h => by
    simp only [T.right, Bool.and_eq_true] at h
    have : az = [] := by simpa using h.1
    subst this
    simp only [T.ok, T.oks, and_true]
    exact nameB_nice (by decide) (by decide) h.2
  | .mk false n az, h => by
    simp only [T.right, Bool.and_eq_true] at h
    simp only [T.ok]
    exact ⟨nameB_nice (by decide) (by decide) h.1.1, T.rights_ok az h.2⟩
theorem T.rights_ok : ∀ l : List T, T.rights l = true → T.oks l
  | [], _ => trivial
  | t :: r, h => by
    simp only [T.rights, Bool.and_eq_true] at h
    exact ⟨T.right_ok t h.1, T.rights_ok r h.2⟩
end
mutual
theorem F.shape_ok : ∀ f : F, f.shape = true → f.ok
  | .mk op n az l, h => by
    simp only [F.shape] at h
    simp only [F.ok]
    have key : F.shapes l = true ∧ T.rights az = true := by
      split at h
      · cases h
      · simp only [Bool.and_eq_true] at h; exact ⟨h.2, h.1.2⟩
    refine ⟨F.shapes_ok l key.1, ?_⟩
    have ha := T.rights_ok az key.2
    unfold row at h
    split at h
    · cases h
    · rename_i k a s e
      simp only [Bool.and_eq_true, beq_iff_eq] at h
      obtain ⟨⟨⟨⟨h1, h2⟩, h3⟩, _⟩, _⟩ := h
      split at e
      · rename_i q; cases e
        exact .inl ⟨q, pred_nice (by simpa [nameK] using h1), pred_btw (by simpa [nameK] using h1), ha, List.length_eq_zero_iff.1 h3⟩
      split at e
      · rename_i q; cases e
        exact .inr (.inl ⟨q, List.length_eq_zero_iff.1 h3⟩)
      split at e
      · rename_i q; cases e
        exact .inr (.inr (.inl ⟨q, List.length_eq_one_iff.1 h3⟩))
      split at e
      · rename_i q; cases e
        exact .inr (.inr (.inr (.inl ⟨q, two_of h3⟩)))
      split at e
      · rename_i q; cases e
        exact .inr (.inr (.inr (.inr ⟨q, var_nice (by simpa [nameK] using h1), List.length_eq_one_iff.1 h3⟩)))
      · cases e
theorem F.shapes_ok : ∀ l : List F, F.shapes l = true → F.oks l
  | [], _ => trivial
  | f :: r, h => by
    simp only [F.shapes, Bool.and_eq_true] at h
    exact ⟨F.shape_ok f h.1, F.shapes_ok r h.2⟩
end
def tv (n : UInt8) : T := .mk true [n] []
def tf (n : UInt8) (l : List T) : T := .mk false [n] l
def bTerm0 (k : Nat) : T := if k = 0 then tv 120 else if k = 1 then tv 121 else if k = 2 then tv 122 else if k = 3 then tf 97 [] else tf 98 []
def bTerm (b : Nat) : T := if 0 < b / 5 % 3 then tf (if b / 5 % 3 = 1 then 102 else 103) [bTerm0 (b % 5)] else bTerm0 (b % 5)
def bAtom (n : UInt8) (l : List T) : F := .mk 1 [n] l []
def bStep (s : List F) (x : Nat) : List F :=
  if x % 12 < 2 then s ++ [bAtom (if x / 12 % 3 = 0 then 80 else if x / 12 % 3 = 1 then 81 else 82) []]
  else if x % 12 < 4 then s ++ [bAtom (if x % 12 % 2 = 0 then 80 else 81) [bTerm (x / 12)]]
  else if x % 12 = 4 then s ++ [bAtom 82 [bTerm (x / 12), bTerm (x / 12 / 3)]]
  else if x % 12 = 5 then s ++ [.mk 2 [] [] []]
  else if x % 12 = 6 ∧ 1 ≤ s.length then s.take (s.length - 1) ++ [.mk (if x / 12 % 3 = 0 then 3 else if x / 12 % 3 = 1 then 10 else 12) [] [] (s.drop (s.length - 1))]
  else if 7 ≤ x % 12 ∧ x % 12 < 10 ∧ 2 ≤ s.length then s.take (s.length - 2) ++ [.mk (if x % 12 = 7 then 4 else if x % 12 = 8 then 5 else 6) [] [] (s.drop (s.length - 2))]
  else if 10 ≤ x % 12 ∧ 1 ≤ s.length then s.take (s.length - 1) ++ [.mk (8 + x % 12 - 10) [if x / 12 % 3 = 0 then 120 else if x / 12 % 3 = 1 then 121 else 122] [] (s.drop (s.length - 1))]
  else s
def untils (f : F) (l : List F) : F := l.foldl (fun f g => .mk 14 [] [] [f, g]) f
def built (l : List Nat) : F := match (l.take 20).foldl bStep [] with
  | [] => .mk 2 [] [] []
  | f :: r => untils f r
mutual
def F.sz : F → Nat
  | .mk _ _ _ l => 1 + F.szs l
def F.szs : List F → Nat
  | [] => 0
  | f :: r => f.sz + F.szs r
end
theorem szs_append (a b : List F) : F.szs (a ++ b) = F.szs a + F.szs b := by
  induction a with
  | nil => simp [F.szs]
  | cons x a ih => simp only [List.cons_append, F.szs, ih]; omega
theorem szs_split (s : List F) (n : Nat) : F.szs s = F.szs (s.take n) + F.szs (s.drop n) := by
  rw [← szs_append, List.take_append_drop]
def Fit (f : F) : Prop := f.shape = true ∧ f.nodes ≤ 5 * f.sz ∧ f.depth ≤ f.sz + 2 ∧ 1 ≤ f.sz
theorem bTerm0_ok (k : Nat) : (bTerm0 k).right = true ∧ (bTerm0 k).cnt = 1 ∧ (bTerm0 k).high = 1 := by
  unfold bTerm0
  repeat' split
  all_goals decide
theorem bTerm_ok (b : Nat) : (bTerm b).right = true ∧ (bTerm b).cnt ≤ 2 ∧ (bTerm b).high ≤ 2 := by
  have h := bTerm0_ok (b % 5)
  unfold bTerm
  split
  · have hf : funB [if b / 5 % 3 = 1 then 102 else 103] = true := by split <;> decide
    simp only [tf, T.right, T.rights, T.cnt, T.cnts, T.high, T.highs, h, hf]
    simp
  · exact ⟨h.1, by omega, by omega⟩
theorem fit_all {s : List F} (h : ∀ f ∈ s, Fit f) : F.shapes s = true ∧ F.nodess s ≤ 5 * F.szs s ∧ F.depths s ≤ F.szs s + 2 := by
  induction s with
  | nil => simp [F.shapes, F.nodess, F.depths]
  | cons f r ih =>
    have h1 := h f (by simp)
    have h2 := ih fun g hg => h g (List.mem_cons_of_mem _ hg)
    obtain ⟨a1, a2, a3, a4⟩ := h1
    obtain ⟨b1, b2, b3⟩ := h2
    simp only [F.shapes, F.nodess, F.depths, F.szs, a1, b1]
    exact ⟨rfl, by omega, by omega⟩
theorem fit_op {op : Nat} {n : Str} {l : List F} {k : Nat} (hr : row op = some (k, 0, l.length)) (hn : nameK k n = true) (h : ∀ f ∈ l, Fit f) : Fit (.mk op n [] l) := by
  obtain ⟨b1, b2, b3⟩ := fit_all h
  refine ⟨?_, ?_, ?_, ?_⟩
  · simp [F.shape, hr, hn, b1, T.rights]
  · simp only [F.nodes, T.cnts, F.sz]; omega
  · simp only [F.depth, T.highs, F.sz]; omega
  · simp only [F.sz]; omega
theorem fit_atom {n : UInt8} {l : List T} (hn : predB [n] = true) (hl : l.length ≤ 4) (hr : T.rights l = true) (hc : T.cnts l ≤ 4) (hh : T.highs l ≤ 2) : Fit (bAtom n l) := by
  refine ⟨?_, ?_, ?_, ?_⟩
  · simp [bAtom, F.shape, row, nameK, hn, hl, hr, F.shapes]
  · simp only [bAtom, F.nodes, F.nodess, F.sz, F.szs]; omega
  · simp only [bAtom, F.depth, F.depths, F.sz, F.szs]; omega
  · simp only [bAtom, F.sz]; omega
theorem bStep_fit {s : List F} {x : Nat} (h : ∀ f ∈ s, Fit f) : (∀ f ∈ bStep s x, Fit f) ∧ F.szs (bStep s x) ≤ F.szs s + 1 := by
  have push : ∀ f, Fit f → f.sz = 1 → (∀ g ∈ s ++ [f], Fit g) ∧ F.szs (s ++ [f]) ≤ F.szs s + 1 := fun f hf h1 => by
    refine ⟨fun g hg => ?_, by rw [szs_append]; simp [F.szs, h1]⟩
    rcases List.mem_append.1 hg with q | q
    · exact h g q
    · rw [List.mem_singleton] at q; subst q; exact hf
  have take : ∀ (n : Nat) (f : F), Fit f → f.sz = 1 + F.szs (s.drop n) → (∀ g ∈ s.take n ++ [f], Fit g) ∧ F.szs (s.take n ++ [f]) ≤ F.szs s + 1 := fun n f hf h1 => by
    refine ⟨fun g hg => ?_, by rw [szs_append, szs_split s n]; simp only [F.szs, h1]; omega⟩
    rcases List.mem_append.1 hg with q | q
    · exact h g (List.mem_of_mem_take q)
    · rw [List.mem_singleton] at q; subst q; exact hf
  have hd : ∀ n, ∀ f ∈ s.drop n, Fit f := fun n f hf => h f (List.mem_of_mem_drop hf)
  unfold bStep
  split
  · refine push _ (fit_atom ?_ (by simp) rfl (by simp [T.cnts]) (by simp [T.highs])) rfl
    repeat' split
    all_goals decide
  split
  · have := bTerm_ok (x / 12)
    refine push _ (fit_atom ?_ (by simp) (by simp [T.rights, this]) (by simp only [T.cnts]; omega) (by simp only [T.highs]; omega)) rfl
    split <;> decide
  split
  · have h1 := bTerm_ok (x / 12)
    have h2 := bTerm_ok (x / 12 / 3)
    exact push _ (fit_atom (by decide) (by simp) (by simp [T.rights, h1, h2]) (by simp only [T.cnts]; omega) (by simp only [T.highs]; omega)) rfl
  split
  · exact push _ (fit_op (k := 0) rfl rfl (fun _ hf => by cases hf)) rfl
  split
  · rename_i q
    have hl : (s.drop (s.length - 1)).length = 1 := by simp; omega
    refine take _ _ (fit_op (k := 0) ?_ rfl (hd _)) rfl
    rw [hl]
    repeat' split
    all_goals rfl
  split
  · rename_i q
    have hl : (s.drop (s.length - 2)).length = 2 := by simp; omega
    refine take _ _ (fit_op (k := 0) ?_ rfl (hd _)) rfl
    rw [hl]
    repeat' split
    all_goals rfl
  split
  · rename_i q
    have hl : (s.drop (s.length - 1)).length = 1 := by simp; omega
    refine take _ _ (fit_op (k := 2) ?_ ?_ (hd _)) rfl
    · rw [hl]
      have : 8 + x % 12 - 10 = 8 ∨ 8 + x % 12 - 10 = 9 := by omega
      rcases this with e | e <;> rw [e] <;> rfl
    · repeat' split
      all_goals decide
  · exact ⟨h, by omega⟩
theorem fold_fit (l : List Nat) (s : List F) (h : ∀ f ∈ s, Fit f) : (∀ f ∈ l.foldl bStep s, Fit f) ∧ F.szs (l.foldl bStep s) ≤ F.szs s + l.length := by
  induction l generalizing s with
  | nil => exact ⟨h, by simp⟩
  | cons x l ih =>
    have h1 := bStep_fit (x := x) h
    have h2 := ih _ h1.1
    refine ⟨h2.1, ?_⟩
    have := h2.2
    simp only [List.foldl_cons, List.length_cons]
    omega
theorem untils_ok (r : List F) (f : F) (m : Nat) (hf : f.shape = true) (h : ∀ g ∈ r, Fit g) (hd : f.depth ≤ m) (hr : ∀ g ∈ r, g.depth ≤ m) :
    (untils f r).shape = true ∧ (untils f r).nodes ≤ f.nodes + 5 * F.szs r + r.length ∧ (untils f r).depth ≤ m + r.length := by
  induction r generalizing f m with
  | nil => exact ⟨hf, by simp [untils, F.szs], by simpa [untils] using hd⟩
  | cons g r ih =>
    have hg := h g (by simp)
    have hgd := hr g (by simp)
    have := ih (.mk 14 [] [] [f, g]) (m + 1) (by simp [F.shape, row, nameK, T.rights, F.shapes, hf, hg.1]) (fun x hx => h x (List.mem_cons_of_mem _ hx))
      (by simp only [F.depth, T.highs, F.depths]; omega) (fun x hx => by have := hr x (List.mem_cons_of_mem _ hx); omega)
    obtain ⟨a, b, c⟩ := this
    have e : untils f (g :: r) = untils (.mk 14 [] [] [f, g]) r := rfl
    rw [e]
    have hg2 := hg.2.1
    refine ⟨a, ?_, ?_⟩
    · simp only [F.nodes, T.cnts, F.nodess] at b
      simp only [F.szs, List.length_cons]; omega
    · simp only [List.length_cons]; omega
theorem szs_len {s : List F} (h : ∀ f ∈ s, Fit f) : s.length ≤ F.szs s := by
  induction s with
  | nil => simp
  | cons f r ih =>
    have := ih fun g hg => h g (List.mem_cons_of_mem _ hg)
    have := (h f (by simp)).2.2.2
    simp only [List.length_cons, F.szs]; omega
theorem sz_mem {s : List F} (h : ∀ f ∈ s, Fit f) {g : F} (hg : g ∈ s) : g.sz + s.length ≤ F.szs s + 1 := by
  induction s with
  | nil => cases hg
  | cons f r ih =>
    have h1 := (h f (by simp)).2.2.2
    have h2 := szs_len (s := r) fun g hg => h g (List.mem_cons_of_mem _ hg)
    simp only [List.length_cons, F.szs]
    rcases List.mem_cons.1 hg with q | q
    · subst q; omega
    · have := ih (fun g hg => h g (List.mem_cons_of_mem _ hg)) q
      omega
theorem built_right (l : List Nat) : (built l).right = true := by
  have h := fold_fit (l.take 20) [] (fun _ h => by cases h)
  have hlen : (l.take 20).length ≤ 20 := by simp; omega
  unfold built
  generalize (l.take 20).foldl bStep [] = s at h
  have h2 : F.szs s ≤ 20 := by have := h.2; simp only [F.szs] at this; omega
  cases s with
  | nil => decide
  | cons f r =>
    simp only
    have hf := h.1 f (by simp)
    have hl := szs_len h.1
    have hd : ∀ g ∈ f :: r, g.depth + r.length ≤ 22 := fun g hg => by
      have h3 := sz_mem h.1 hg
      have h4 := (h.1 g hg).2.2.1
      simp only [List.length_cons] at h3
      omega
    have := untils_ok r f (22 - r.length) hf.1 (fun g hg => h.1 g (List.mem_cons_of_mem _ hg)) (by have := hd f (by simp); omega) (fun g hg => by have := hd g (List.mem_cons_of_mem _ hg); omega)
    obtain ⟨a, b, c⟩ := this
    have hf2 := hf.2.1
    simp only [F.szs, List.length_cons] at h2 hl
    simp only [F.right, a, Bool.and_eq_true, decide_eq_true_eq, and_true]
    have := hd f (by simp)
    exact ⟨by omega, by omega⟩
end Go.Am.Do
namespace Go.Am
open Go.RowKit Do
set_option maxRecDepth 100000
structure Grow (σ σ' : AState) : Prop where
  le : σ.next ≤ σ'.next
  sub : Sub σ.get σ'.get
  wf : σ'.Wf
theorem Grow.refl {σ : AState} (h : σ.Wf) : Grow σ σ := ⟨Nat.le_refl _, Sub.refl _, h⟩
theorem Grow.trans {a b c : AState} (h : Grow a b) (k : Grow b c) : Grow a c := ⟨Nat.le_trans h.le k.le, h.sub.trans k.sub, k.wf⟩
theorem sub_push {σ : AState} (h : σ.Wf) (b : ABlk) : Sub σ.get (σ.push b).get := (Ext.push h b).2
theorem Grow.push {σ σ' : AState} (h : Grow σ σ') (b : ABlk) : Grow σ (σ'.push b) := ⟨Nat.le_succ_of_le h.le, h.sub.trans (sub_push h.wf b), h.wf.push b⟩
mutual
def Do.T.dv : T → List DV
  | .mk v n az => [.bool v, .str n, .sl 3 az.length (T.dvs az)]
def Do.T.dvs : List T → List DV
  | [] => []
  | t :: r => t.dv ++ T.dvs r
end
mutual
def Do.F.dv : F → List DV
  | .mk op n az l => [.int .u8 op, .str n, .sl 3 az.length (T.dvs az), .sl 4 l.length (F.dvs l)]
def Do.F.dvs : List F → List DV
  | [] => []
  | f :: r => f.dv ++ F.dvs r
end
theorem Do.T.dv_len : ∀ t : T, t.dv.length = 3
  | .mk _ _ _ => rfl
theorem Do.F.dv_len : ∀ f : F, f.dv.length = 4
  | .mk _ _ _ _ => rfl
theorem Do.T.dvs_len : ∀ l : List T, (T.dvs l).length = l.length * 3
  | [] => rfl
  | t :: r => by simp only [T.dvs, List.length_append, T.dv_len, T.dvs_len r, List.length_cons]; omega
theorem Do.F.dvs_len : ∀ l : List F, (F.dvs l).length = l.length * 4
  | [] => rfl
  | t :: r => by simp only [F.dvs, List.length_append, F.dv_len, F.dvs_len r, List.length_cons]; omega
theorem Do.T.dvs_get : ∀ (l : List T) (k : Nat) (t : T), l[k]? = some t → ((T.dvs l).drop (k * 3)).take 3 = t.dv
  | [], k, t, h => by simp at h
  | a :: r, 0, t, h => by
    simp only [List.getElem?_cons_zero, Option.some.injEq] at h; subst h
    simp only [T.dvs, Nat.zero_mul, List.drop_zero]
    rw [List.take_append_of_le_length (by rw [T.dv_len]; omega), List.take_of_length_le (by rw [T.dv_len]; omega)]
  | a :: r, k + 1, t, h => by
    simp only [List.getElem?_cons_succ] at h
    simp only [T.dvs]
    rw [show (k + 1) * 3 = a.dv.length + k * 3 by rw [T.dv_len]; omega, List.drop_append, List.drop_eq_nil_of_le (by omega), List.nil_append, Nat.add_sub_cancel_left]
    exact T.dvs_get r k t h
theorem Do.F.dvs_get : ∀ (l : List F) (k : Nat) (t : F), l[k]? = some t → ((F.dvs l).drop (k * 4)).take 4 = t.dv
  | [], k, t, h => by simp at h
  | a :: r, 0, t, h => by
    simp only [List.getElem?_cons_zero, Option.some.injEq] at h; subst h
    simp only [F.dvs, Nat.zero_mul, List.drop_zero]
    rw [List.take_append_of_le_length (by rw [F.dv_len]; omega), List.take_of_length_le (by rw [F.dv_len]; omega)]
  | a :: r, k + 1, t, h => by
    simp only [List.getElem?_cons_succ] at h
    simp only [F.dvs]
    rw [show (k + 1) * 4 = a.dv.length + k * 4 by rw [F.dv_len]; omega, List.drop_append, List.drop_eq_nil_of_le (by omega), List.nil_append, Nat.add_sub_cancel_left]
    exact F.dvs_get r k t h
def Ts (g : Mem) (o : Option (Nat × Nat)) (n z : Nat) (l : List T) : Prop := n = l.length ∧ (n = 0 ∨ z = 3) ∧ (n = 0 ∨ ∃ i off cs w xs, o = some (i, off) ∧ g i = some (.cells cs w) ∧ off + n * 3 ≤ cs.length ∧ xs = (cs.drop off).take (n * 3) ∧ DAtL g (T.dvs l) xs)
def Fs (g : Mem) (o : Option (Nat × Nat)) (n z : Nat) (l : List F) : Prop := n = l.length ∧ (n = 0 ∨ z = 4) ∧ (n = 0 ∨ ∃ i off cs w xs, o = some (i, off) ∧ g i = some (.cells cs w) ∧ off + n * 4 ≤ cs.length ∧ xs = (cs.drop off).take (n * 4) ∧ DAtL g (F.dvs l) xs)
theorem Ts.sub {g h : Mem} (s : Sub g h) {o : Option (Nat × Nat)} {n z : Nat} {l : List T} (e : Ts g o n z l) : Ts h o n z l := by
  obtain ⟨a, b, c⟩ := e
  refine ⟨a, b, c.imp_right ?_⟩
  rintro ⟨i, off, cs, w, xs, h1, h2, h3, h4, h5⟩
  exact ⟨i, off, cs, w, xs, h1, s _ _ h2, h3, h4, DAtL.sub s _ _ h5⟩
theorem Fs.sub {g h : Mem} (s : Sub g h) {o : Option (Nat × Nat)} {n z : Nat} {l : List F} (e : Fs g o n z l) : Fs h o n z l := by
  obtain ⟨a, b, c⟩ := e
  refine ⟨a, b, c.imp_right ?_⟩
  rintro ⟨i, off, cs, w, xs, h1, h2, h3, h4, h5⟩
  exact ⟨i, off, cs, w, xs, h1, s _ _ h2, h3, h4, DAtL.sub s _ _ h5⟩
theorem dat_cells {g : Mem} {sz n : Nat} {ds : List DV} {v : AV} (h : DAt g (.sl sz n ds) v) : ∃ o c z, v = .slice o n c z ∧ (n = 0 ∨ z = sz) ∧ (n = 0 ∨ ∃ i off cs w xs, o = some (i, off) ∧ g i = some (.cells cs w) ∧ off + n * sz ≤ cs.length ∧ xs = (cs.drop off).take (n * sz) ∧ DAtL g ds xs) := by
  simp only [DAt] at h
  obtain ⟨o, c, z, rfl, h1, h2, h3⟩ := h
  refine ⟨o, c, z, rfl, h1, h2.imp_right ?_⟩
  rintro ⟨l, hl, hd⟩
  unfold cellsAt at hl
  cases o with
  | none => cases hl
  | some p =>
    obtain ⟨i, off⟩ := p
    simp only at hl
    split at hl
    · rename_i cs w hg
      split at hl
      · rename_i hle
        cases hl
        exact ⟨i, off, cs, w, _, rfl, hg, hle, rfl, hd⟩
      · cases hl
    · cases hl
theorem Do.T.cells {g : Mem} {v : Bool} {n : Str} {az : List T} {xs : List AV} (h : DAtL g (T.mk v n az).dv xs) : ∃ o c z, xs = [.bool v, .str n, .slice o az.length c z] ∧ Ts g o az.length z az := by
  simp only [T.dv, DAtL, DAt] at h
  obtain ⟨_, _, rfl, rfl, _, _, rfl, rfl, x, _, rfl, hx, rfl⟩ := h
  obtain ⟨o, c, z, rfl, h1, h2⟩ := dat_cells (by simpa only [DAt] using hx)
  exact ⟨o, c, z, rfl, rfl, h1, h2⟩
theorem Do.F.cells {g : Mem} {op : Nat} {n : Str} {az : List T} {l : List F} {xs : List AV} (h : DAtL g (F.mk op n az l).dv xs) :
    ∃ o c z o' c' z', xs = [.int .u8 op, .str n, .slice o az.length c z, .slice o' l.length c' z'] ∧ Ts g o az.length z az ∧ Fs g o' l.length z' l := by
  simp only [F.dv, DAtL, DAt] at h
  obtain ⟨_, _, rfl, rfl, _, _, rfl, rfl, x, _, rfl, hx, y, _, rfl, hy, rfl⟩ := h
  obtain ⟨o, c, z, rfl, h1, h2⟩ := dat_cells (by simpa only [DAt] using hx)
  obtain ⟨o', c', z', rfl, k1, k2⟩ := dat_cells (by simpa only [DAt] using hy)
  exact ⟨o, c, z, o', c', z', rfl, ⟨rfl, h1, h2⟩, rfl, k1, k2⟩
theorem Ts.elem {g : Mem} {o : Option (Nat × Nat)} {n z : Nat} {l : List T} (h : Ts g o n z l) {k : Nat} {t : T} (ht : l[k]? = some t) :
    z = 3 ∧ ∃ i off cs w, o = some (i, off) ∧ g i = some (.cells cs w) ∧ off + k * 3 + 3 ≤ cs.length ∧ ∃ xs, (cs.drop (off + k * 3)).take 3 = xs ∧ DAtL g t.dv xs := by
  obtain ⟨a, b, c⟩ := h
  have hk : k < l.length := by
    rcases Nat.lt_or_ge k l.length with q | q
    · exact q
    · rw [List.getElem?_eq_none q] at ht; cases ht
  have hn : n ≠ 0 := by omega
  refine ⟨b.resolve_left hn, ?_⟩
  obtain ⟨i, off, cs, w, xs, h1, h2, h3, rfl, h5⟩ := c.resolve_left hn
  refine ⟨i, off, cs, w, h1, h2, by omega, _, rfl, ?_⟩
  have := (h5.drop (k * 3)).take 3
  rw [T.dvs_get l k t ht, List.drop_take, List.drop_drop, List.take_take, Nat.min_eq_left (by omega)] at this
  exact this
theorem Fs.elem {g : Mem} {o : Option (Nat × Nat)} {n z : Nat} {l : List F} (h : Fs g o n z l) {k : Nat} {t : F} (ht : l[k]? = some t) :
    z = 4 ∧ ∃ i off cs w, o = some (i, off) ∧ g i = some (.cells cs w) ∧ off + k * 4 + 4 ≤ cs.length ∧ ∃ xs, (cs.drop (off + k * 4)).take 4 = xs ∧ DAtL g t.dv xs := by
  obtain ⟨a, b, c⟩ := h
  have hk : k < l.length := by
    rcases Nat.lt_or_ge k l.length with q | q
    · exact q
    · rw [List.getElem?_eq_none q] at ht; cases ht
  have hn : n ≠ 0 := by omega
  refine ⟨b.resolve_left hn, ?_⟩
  obtain ⟨i, off, cs, w, xs, h1, h2, h3, rfl, h5⟩ := c.resolve_left hn
  refine ⟨i, off, cs, w, h1, h2, by omega, _, rfl, ?_⟩
  have := (h5.drop (k * 4)).take 4
  rw [F.dvs_get l k t ht, List.drop_take, List.drop_drop, List.take_take, Nat.min_eq_left (by omega)] at this
  exact this
theorem get_lt {α : Type} {l : List α} {k : Nat} (h : k < l.length) : ∃ x, l[k]? = some x ∧ x ∈ l := ⟨l[k], List.getElem?_eq_getElem h, List.getElem_mem h⟩
end Go.Am
namespace Go.Am
abbrev qm (d s : Nat) : It := .op (some d) none (.mv (.t s))
abbrev qk (d : Nat) (v : AV) : It := .op (some d) none (.mv (.c v))
abbrev qo (d : Nat) (o : AOp) : It := .op (some d) none o
abbrev qg (d t : Nat) (b : Bool) (o : AOp) : It := .op (some d) (some (t, b)) o
abbrev qh (d t : Nat) (b : Bool) (s : Nat) : It := .op (some d) (some (t, b)) (.mv (.t s))
abbrev qs (n a v : Nat) : It := .op none none (.store n (.t a) (.t v))
abbrev ql (d s : Nat) : It := .op (some d) none (.load none (.t s))
abbrev qn (d n s : Nat) : It := .op (some d) none (.load (some n) (.t s))
abbrev qe (d i s : Nat) : It := .op (some d) none (.extract i (.t s))
abbrev qc (d f : Nat) (l : List X) : It := .call (some d) none (.c (.func (.func f) [] [])) l
abbrev qi (n : Int) : AV := .int .i64 n
abbrev qu (n : Int) : AV := .int .u8 n
abbrev qx (n : Int) : X := .c (.int .i64 n)
abbrev qy (l : List UInt8) : X := .c (.str l)
abbrev qb (d : Nat) (o : BinOp) (x y : X) : It := .op (some d) none (.bin o x y)
abbrev qv (d : Nat) (o : BinOp) (x y : Nat) : It := .op (some d) none (.bin o (.t x) (.t y))
abbrev qp (d c b : Nat) : It := .op (some d) none (.pick (.t c) (.c (.bool true)) (.t b))
abbrev qq (d c a : Nat) : It := .op (some d) none (.pick (.t c) (.t a) (.c (.bool false)))
abbrev qa (l : List It) (b : AC) : AC := .seq (.its l) b
abbrev qf (f : Nat) : AV := .func (.func f) [] []
abbrev n_law41_DescribeApart : Nat := 3
abbrev n_law41_awake : Nat := 4
abbrev n_law30_Built : Nat := 5
abbrev n_describe_Form : Nat := 6
abbrev n_describe_Claim : Nat := 7
abbrev n_law41_Proved : Nat := 8
abbrev n_describe_Proof : Nat := 9
abbrev n_syntax_Same : Nat := 10
abbrev n_kit_SameSeq : Nat := 11
abbrev n_kit_SameTexts : Nat := 12
abbrev n_kit_SameProof : Nat := 13
abbrev n_law41_join : Nat := 16
abbrev n_describe_Outline : Nat := 20
abbrev n_law41_leaf : Nat := 22
abbrev n_law30_atom : Nat := 24
abbrev n_law30_term : Nat := 25
abbrev n_law30_join : Nat := 26
abbrev n_law30_bound : Nat := 27
abbrev n_syntax_Right : Nat := 28
abbrev n_describe_text : Nat := 29
abbrev n_slices_Concat_api_Form : Nat := 30
abbrev n_describe_join : Nat := 31
abbrev n_strings_Join : Nat := 32
abbrev n_describe_whole : Nat := 33
abbrev n_describe_ProofS1 : Nat := 34
abbrev n_strconv_Itoa : Nat := 35
abbrev n_describe_list : Nat := 36
abbrev n_syntax_Compare : Nat := 37
abbrev n_kit_SameForms : Nat := 38
abbrev n_kit_SameForm : Nat := 39
abbrev n_kit_SameProofs : Nat := 40
abbrev n_kit_SameMarks : Nat := 41
abbrev n_strings_Split : Nat := 42
abbrev n_describe_OutlineS1 : Nat := 45
abbrev n_describe_head : Nat := 46
abbrev n_law30_variable : Nat := 51
abbrev n_law30_apply : Nat := 52
abbrev n_syntax_fits : Nat := 53
abbrev n_syntax_shape : Nat := 54
abbrev n_slices_Grow_api_Form : Nat := 55
abbrev n_describe_fits : Nat := 59
abbrev n_istrconv_Itoa : Nat := 60
abbrev n_cmp_Or_int : Nat := 61
abbrev n_cmp_Compare_uint8 : Nat := 62
abbrev n_cmp_Compare_string : Nat := 63
abbrev n_syntax_lists_api_Term : Nat := 64
abbrev n_syntax_byTerm : Nat := 65
abbrev n_syntax_lists_api_Form : Nat := 66
abbrev n_kit_SameTerms : Nat := 67
abbrev n_kit_SameInts : Nat := 68
abbrev n_strings_genSplit : Nat := 69
abbrev n_describe_patterns : Nat := 73
abbrev n_syntax_Variable : Nat := 78
abbrev n_syntax_Predicate : Nat := 81
abbrev n_describe_term : Nat := 83
abbrev n_slices_IndexFunc_describe_pattern : Nat := 84
abbrev n_describe_headS1 : Nat := 85
abbrev n_syntax_Nodes : Nat := 89
abbrev n_syntax_Depth : Nat := 90
abbrev n_syntax_rows : Nat := 91
abbrev n_syntax_term : Nat := 92
abbrev n_syntax_ofTerms : Nat := 93
abbrev n_slices_ContainsFunc_api_Term : Nat := 94
abbrev n_syntax_shapeS1 : Nat := 95
abbrev n_slices_ContainsFunc_api_Form : Nat := 96
abbrev n_syntax_shapeS2 : Nat := 97
abbrev n_describe_fitsS1 : Nat := 100
abbrev n_describe_name : Nat := 101
abbrev n_slices_ContainsFunc_int : Nat := 102
abbrev n_describe_fitsS2 : Nat := 103
abbrev n_istrconv_FormatInt : Nat := 104
abbrev n_cmp_isNaN_uint8 : Nat := 105
abbrev n_cmp_isNaN_string : Nat := 106
abbrev n_cmp_Compare_int : Nat := 107
abbrev n_slices_CompareFunc_api_Term_api_Term : Nat := 108
abbrev n_slices_CompareFunc_api_Form_api_Form : Nat := 109
abbrev n_kit_SameTerm : Nat := 110
abbrev n_strings_explode : Nat := 111
abbrev n_strings_Count : Nat := 112
abbrev n_strings_Index : Nat := 113
abbrev n_syntax_name : Nat := 115
abbrev n_syntax_VariableS1 : Nat := 116
abbrev n_syntax_digit : Nat := 117
abbrev n_syntax_capital : Nat := 118
abbrev n_syntax_letter : Nat := 119
abbrev n_syntax_all : Nat := 123
abbrev n_syntax_terms : Nat := 124
abbrev n_syntax_high : Nat := 125
abbrev n_syntax_none : Nat := 126
abbrev n_syntax_ofForms : Nat := 127
abbrev n_syntax_Function : Nat := 128
abbrev n_syntax_termS1 : Nat := 129
abbrev n_slices_IndexFunc_api_Term : Nat := 131
abbrev n_slices_IndexFunc_api_Form : Nat := 132
abbrev n_describe_nameS1 : Nat := 135
abbrev n_strings_ContainsFunc : Nat := 136
abbrev n_slices_IndexFunc_int : Nat := 137
abbrev n_istrconv_small : Nat := 138
abbrev n_istrconv_numDigits : Nat := 139
abbrev n_istrconv_formatBase10 : Nat := 140
abbrev n_istrconv_formatBits : Nat := 141
abbrev n_cmp_isNaN_int : Nat := 142
abbrev n_utf8_RuneCountInString : Nat := 143
abbrev n_stringslite_Index : Nat := 146
abbrev n_slices_Contains_string : Nat := 147
abbrev n_slices_ContainsFunc_byte : Nat := 148
abbrev n_syntax_nameS1 : Nat := 149
abbrev n_syntax_small : Nat := 150
abbrev n_syntax_allS1 : Nat := 152
abbrev n_syntax_every : Nat := 153
abbrev n_syntax_termsS1 : Nat := 154
abbrev n_syntax_FunctionS1 : Nat := 155
abbrev n_istrconv_log10Pow2 : Nat := 157
abbrev n_bits_Len64 : Nat := 158
abbrev n_istrconv_bool2_int : Nat := 159
abbrev n_stringslite_IndexByte : Nat := 163
abbrev n_bytealg_Cutover : Nat := 165
abbrev n_bytealg_IndexRabinKarp_string : Nat := 166
abbrev n_slices_Index_string : Nat := 167
abbrev n_slices_IndexFunc_byte : Nat := 168
end Go.Am
