/-
  Small code: its operands, its operations that only read, what they yield, and that they yield it in the model.
  Conditions: none (laws over any program).
-/
import Derived.Test.YtnbnofmnbopknaaDoorVa
import Derived.WalkKit
import GoSem.Instr.MapUpdate
set_option linter.unusedSimpArgs false
set_option linter.unusedVariables false
set_option linter.defProp false
namespace Go.Proofs.YtnbnofmnbopknaaDoor
open Go

/-- A string as its bytes. -/
def S (l : List UInt8) : Value := .string ⟨⟨l⟩⟩
theorem S_def (s : ByteArray) : Value.string s = S s.data.toList := rfl
theorem S_inj (a b : List UInt8) : (S a = S b) = (a = b) := by
  refine propext ⟨fun h => ?_, fun h => by rw [h]⟩
  simp only [S, Value.string.injEq, ByteArray.mk.injEq, Array.mk.injEq] at h
  exact h

structure Env where
  l : List (Nat × Value)
  r : Nat → Value
def lkL : List (Nat × Value) → (Nat → Value) → Nat → Value
  | [], r, t => r t
  | (k, v) :: l, r, t => if k = t then v else lkL l r t
def lk (e : Env) (t : Nat) : Value := lkL e.l e.r t
def Env.set (e : Env) (d : Nat) (v : Value) : Env := ⟨(d, v) :: e.l, e.r⟩
theorem lk_cons (k : Nat) (v : Value) (l : List (Nat × Value)) (r : Nat → Value) (t : Nat) : lk ⟨(k, v) :: l, r⟩ t = if k = t then v else lk ⟨l, r⟩ t := rfl
theorem lk_nil (r : Nat → Value) (t : Nat) : lk ⟨[], r⟩ t = r t := rfl
theorem set_mk (l : List (Nat × Value)) (r : Nat → Value) (d : Nat) (v : Value) : Env.set ⟨l, r⟩ d v = ⟨(d, v) :: l, r⟩ := rfl
theorem lk_set (e : Env) (d : Nat) (v : Value) (t : Nat) : lk (e.set d v) t = if d = t then v else lk e t := rfl

/-- Operands. -/
inductive VO where
  | t (n : Nat)
  | c (v : Value)
  | s (l : List UInt8)
  | f (n : Nat)
  | g (n : Nat)
def ev (e : Env) : VO → Value
  | .t n => lk e n
  | .c v => v
  | .s l => S l
  | .f n => .func (.func n) #[] #[]
  | .g n => .pointer (some ⟨n, 0, none⟩)
def cvO : Operand → VO
  | .tmp t => .t t
  | .const (.string s) => .s s.data.toList
  | .const v => .c v
  | .func f => .f f
  | .global g => .g g
def VO.tmps : VO → List Nat
  | .t n => [n]
  | _ => []
theorem ev_cvO {a : Act} {e : Env} {x : Operand} (h : ∀ t ∈ (cvO x).tmps, a.tmps.getD t undef = lk e t) : a.eval x = ev e (cvO x) := by
  cases x with
  | tmp t => exact h t (by simp [cvO, VO.tmps])
  | const v => cases v <;> rfl
  | global g => rfl
  | func f => rfl

/-! ### what the operations yield -/
def i64lo : Int := -9223372036854775808
def i64hi : Int := 9223372036854775807
def inR (k : IntKind) (x : Int) : Prop :=
  match k with
  | .i64 => -9223372036854775808 ≤ x ∧ x ≤ 9223372036854775807
  | .u8 => 0 ≤ x ∧ x ≤ 255
  | .u64 => True
  | .i32 => -2147483648 ≤ x ∧ x ≤ 2147483647
  | .u32 => 0 ≤ x ∧ x ≤ 4294967295
  | _ => False
def arV (k : IntKind) (x : Int) : Value :=
  match k with
  | .u64 => .int .u64 (x % 18446744073709551616)
  | _ => .int k x
theorem wrap_in {k : IntKind} {x : Int} (h : inR k x) : Value.int k (k.wrap x) = arV k x := by
  cases k <;> simp only [inR, arV] at h ⊢
  case i64 => rw [IntKind.wrap_i64, Int.emod_eq_of_lt (by omega) (by omega)]; congr 1; omega
  case u8 => rw [IntKind.wrap_u8, Int.emod_eq_of_lt (by omega) (by omega)]
  case u64 => rw [IntKind.wrap_u64]
  case i32 => rw [IntKind.wrap_i32, Int.emod_eq_of_lt (by omega) (by omega)]; congr 1; omega
  case u32 => rw [IntKind.wrap_u32, Int.emod_eq_of_lt (by omega) (by omega)]
  all_goals exact h.elim

def asB : Value → Bool
  | .bool b => b
  | _ => false
def asBD : Value → Prop
  | .bool _ => True
  | _ => False

def bitV (op : BinOp) (k : IntKind) (a b : Int) : Int :=
  match op with
  | .and => k.wrap ((BitVec.ofInt k.bits a &&& BitVec.ofInt k.bits b).toNat)
  | .or => k.wrap ((BitVec.ofInt k.bits a ||| BitVec.ofInt k.bits b).toNat)
  | .xor => k.wrap ((BitVec.ofInt k.bits a ^^^ BitVec.ofInt k.bits b).toNat)
  | _ => 0
def binV (op : BinOp) (x y : Value) : Value :=
  match x, y with
  | .int k a, .int _ b =>
    match op with
    | .add => arV k (a + b)
    | .sub => arV k (a - b)
    | .mul => arV k (a * b)
    | .quo => arV k (a.tdiv b)
    | .rem => .int k (a.tmod b)
    | .and => .int k (bitV .and k a b)
    | .or => .int k (bitV .or k a b)
    | .xor => .int k (bitV .xor k a b)
    | .shl => .int k (k.wrap (a * 2 ^ (min b.toNat k.bits)))
    | .shr => .int k (a.fdiv (2 ^ (min b.toNat k.bits)))
    | .eql => .bool (decide (a = b))
    | .neq => .bool (decide (a ≠ b))
    | .lss => .bool (decide (a < b))
    | .leq => .bool (decide (a ≤ b))
    | .gtr => .bool (decide (b < a))
    | .geq => .bool (decide (b ≤ a))
    | _ => undef
  | .string a, .string b =>
    match op with
    | .add => S (a.data.toList ++ b.data.toList)
    | .eql => .bool (decide (a.data.toList = b.data.toList))
    | .neq => .bool (decide (a.data.toList ≠ b.data.toList))
    | .lss => .bool (Op.bytesLess a.data.toList b.data.toList)
    | .leq => .bool (Op.bytesLess a.data.toList b.data.toList || decide (a.data.toList = b.data.toList))
    | .gtr => .bool (!(Op.bytesLess a.data.toList b.data.toList || decide (a.data.toList = b.data.toList)))
    | .geq => .bool (!(Op.bytesLess a.data.toList b.data.toList))
    | _ => undef
  | _, _ => undef
def binD (op : BinOp) (x y : Value) : Prop :=
  match x, y with
  | .int k a, .int k' b =>
    match op with
    | .add => k = k' ∧ inR k (a + b)
    | .sub => k = k' ∧ inR k (a - b)
    | .mul => k = k' ∧ inR k (a * b)
    | .quo => k = k' ∧ b ≠ 0 ∧ inR k (a.tdiv b)
    | .rem => k = k' ∧ b ≠ 0
    | .shl | .shr => 0 ≤ b
    | .andNot => False
    | .and | .or | .xor | .eql | .neq | .lss | .leq | .gtr | .geq => k = k'
  | .string a, .string b =>
    match op with
    | .add => ((a.data.toList.length + b.data.toList.length : Nat) : Int) ≤ 9223372036854775807
    | .eql | .neq | .lss | .leq | .gtr | .geq => True
    | _ => False
  | _, _ => False

theorem beq_dec (a b : List UInt8) : (a == b) = decide (a = b) := by
  by_cases h : a = b <;> simp [h]

section
variable (P : Program) (w : World)

theorem eqGuard_plain (op : BinOp) (T : TypeId) (xo yo : Operand) (x y : Value) (h : (∃ k a, x = .int k a) ∨ (∃ s, x = .string s) ∨ (∃ b, x = .bool b) ∨ (∃ a n c, x = .slice a n c) ∨ (∃ p, x = .pointer p) ∨ (∃ m, x = .map m)) :
    (eqGuard op T xo yo x y).run P w = .ok () w := by
  unfold eqGuard
  rcases h with ⟨k, a, rfl⟩ | ⟨s, rfl⟩ | ⟨b, rfl⟩ | ⟨a, n, c, rfl⟩ | ⟨p, rfl⟩ | ⟨m, rfl⟩ <;> (split <;> simp)

theorem int_run (op : BinOp) (T : TypeId) (k k' : IntKind) (a b : Int) (h : binD op (.int k a) (.int k' b)) :
    (binOp op T (.int k a) (.int k' b)).run P w = .ok (binV op (.int k a) (.int k' b)) w := by
  cases op <;> simp only [binD] at h <;> simp only [binV]
  case add => obtain ⟨rfl, h⟩ := h; simp [binOp, Op.intArith, wrap_in h]
  case sub => obtain ⟨rfl, h⟩ := h; simp [binOp, Op.intArith, wrap_in h]
  case mul => obtain ⟨rfl, h⟩ := h; simp [binOp, Op.intArith, wrap_in h]
  case quo => obtain ⟨rfl, h0, h⟩ := h; simp [binOp, Op.intDiv, h0, wrap_in h]
  case rem => obtain ⟨rfl, h0⟩ := h; simp [binOp, Op.intDiv, h0]
  case and => subst h; simp [binOp, Op.intBits, bitV]
  case or => subst h; simp [binOp, Op.intBits, bitV]
  case xor => subst h; simp [binOp, Op.intBits, bitV]
  case shl => have : ¬ b < 0 := by omega
              simp [binOp, Op.shift, this]
  case shr => have : ¬ b < 0 := by omega
              simp [binOp, Op.shift, this]
  case eql => subst h; simp [binOp, Op.intCmp]; rfl
  case neq => subst h; simp [binOp, Op.intCmp, bne]; rfl
  case lss => subst h; simp [binOp, Op.intCmp]
  case leq => subst h; simp [binOp, Op.intCmp]
  case gtr => subst h; simp [binOp, Op.intCmp]
  case geq => subst h; simp [binOp, Op.intCmp]

theorem str_run (op : BinOp) (T : TypeId) (a b : ByteArray) (h : binD op (.string a) (.string b)) :
    (binOp op T (.string a) (.string b)).run P w = .ok (binV op (.string a) (.string b)) w := by
  cases op <;> simp only [binD] at h <;> simp only [binV]
  case add =>
    have e1 : ¬ (((a.size + b.size : Nat) : Int) > IntKind.i64.max) := by
      have : (IntKind.i64.max : Int) = 9223372036854775807 := by decide
      rw [this]
      have ea : a.data.toList.length = a.size := rfl
      have eb : b.data.toList.length = b.size := rfl
      omega
    have e2 : S (a.data.toList ++ b.data.toList) = Value.string (a ++ b) := by
      rw [S_def]
      congr 1
    simp only [binOp, Op.stringOp, e1, if_false, e2]
    rfl
  all_goals simp only [binOp, Op.stringOp, ByteArray.toList_eq, beq_dec, Sem.run_pure]
  all_goals first | rfl | (simp only [decide_not])

/-! ### the other operations that only read -/
def pickV (c a b : Value) : Value := if asB c then a else b
def notV : Value → Value
  | .bool b => .bool (!b)
  | _ => undef
def negV : Value → Value
  | .int k n => arV k (0 - n)
  | _ => undef
def negD : Value → Prop
  | .int k n => inR k (0 - n)
  | _ => False
def cviV (k : IntKind) : Value → Value
  | .int _ n => arV k n
  | _ => undef
def cviD (k : IntKind) : Value → Prop
  | .int _ n => inR k n
  | _ => False
def lenV : Value → Value
  | .string s => .int .i64 s.data.toList.length
  | _ => undef
def lenD : Value → Prop
  | .string _ => True
  | _ => False
def lensV : Value → Value
  | .slice _ n _ => .int .i64 n
  | _ => undef
def lensD : Value → Prop
  | .slice _ _ _ => True
  | _ => False
def capsV : Value → Value
  | .slice _ _ c => .int .i64 c
  | _ => undef
def idxV : Value → Value → Value
  | .string s, .int _ i => .int .u8 ((s.data.toList.getD i.toNat 0).toNat : Nat)
  | _, _ => undef
def idxD : Value → Value → Prop
  | .string s, .int _ i => 0 ≤ i ∧ i < s.data.toList.length
  | _, _ => False
def asI : Value → Int
  | .int _ i => i
  | _ => 0
def isI : Value → Prop
  | .int _ _ => True
  | _ => False
def subV : Value → Option Value → Option Value → Value
  | .string s, none, none => S s.data.toList
  | .string s, some lo, none => S (s.data.toList.drop (asI lo).toNat)
  | .string s, none, some hi => S (s.data.toList.take (asI hi).toNat)
  | .string s, some lo, some hi => S ((s.data.toList.take (asI hi).toNat).drop (asI lo).toNat)
  | _, _, _ => undef
def subD : Value → Option Value → Option Value → Prop
  | .string _, none, none => True
  | .string s, some lo, none => isI lo ∧ 0 ≤ asI lo ∧ asI lo ≤ s.data.toList.length
  | .string s, none, some hi => isI hi ∧ 0 ≤ asI hi ∧ asI hi ≤ s.data.toList.length
  | .string s, some lo, some hi => isI lo ∧ isI hi ∧ 0 ≤ asI lo ∧ asI lo ≤ asI hi ∧ asI hi ≤ s.data.toList.length
  | _, _, _ => False
/-- The address behind a cut of a slice. -/
def cutA (a : Option Addr) (cap lo size : Nat) : Option Addr := if cap = lo then a else a.map (·.add (lo * size))
def sslV (z : Nat) : Value → Option Value → Option Value → Value
  | .slice a n c, none, none => .slice (cutA a c 0 z) n c
  | .slice a n c, some lo, none => .slice (cutA a c (asI lo).toNat z) (n - (asI lo).toNat) (c - (asI lo).toNat)
  | .slice a _ c, none, some hi => .slice (cutA a c 0 z) (asI hi).toNat c
  | .slice a _ c, some lo, some hi => .slice (cutA a c (asI lo).toNat z) ((asI hi).toNat - (asI lo).toNat) (c - (asI lo).toNat)
  | _, _, _ => undef
def sslD : Value → Option Value → Option Value → Prop
  | .slice _ _ _, none, none => True
  | .slice _ n _, some lo, none => isI lo ∧ 0 ≤ asI lo ∧ asI lo ≤ n
  | .slice _ _ c, none, some hi => isI hi ∧ 0 ≤ asI hi ∧ asI hi ≤ c
  | .slice _ _ c, some lo, some hi => isI lo ∧ isI hi ∧ 0 ≤ asI lo ∧ asI lo ≤ asI hi ∧ asI hi ≤ c
  | _, _, _ => False
def faV (off : Nat) : Value → Value
  | .pointer (some a) => .pointer (some (a.add off))
  | _ => undef
def isP : Value → Prop
  | .pointer (some _) => True
  | _ => False
/-- A pointer that is not nil, or a function. -/
def isN : Value → Prop
  | .pointer (some _) => True
  | .func (.func _) _ _ => True
  | _ => False
def iaV (z : Nat) : Value → Value → Value
  | .slice (some a) _ _, .int _ i => .pointer (some (a.add (i.toNat * z)))
  | _, _ => undef
def iaD : Value → Value → Prop
  | .slice (some _) n _, .int _ i => 0 ≤ i ∧ i < n
  | _, _ => False
def ldV (w : World) : Value → Value
  | .pointer (some a) => (w.cell? a).getD undef
  | _ => undef
def ldD (w : World) : Value → Prop
  | .pointer (some a) => w.cell? a ≠ none
  | _ => False
def ldaV (w : World) (n : Nat) : Value → Value
  | .pointer (some a) => .agg (((List.range n).map fun i => (w.cell? (a.add i)).getD undef).toArray)
  | _ => undef
def ldaD (w : World) (n : Nat) : Value → Prop
  | .pointer (some a) => ∀ i, i < n → w.cell? (a.add i) ≠ none
  | _ => False
def fldV (off : Nat) : Value → Value
  | .agg cs => cs.getD off undef
  | _ => undef
def fldD (off : Nat) : Value → Prop
  | .agg cs => off < cs.size
  | _ => False
def fldaV (off n : Nat) : Value → Value
  | .agg cs => .agg (cs.extract off (off + n))
  | _ => undef
def isAg : Value → Prop
  | .agg _ => True
  | _ => False
def extV (i : Nat) : Value → Value
  | .tuple vs => vs.getD i undef
  | _ => undef
def extD (i : Nat) : Value → Prop
  | .tuple vs => i < vs.size
  | _ => False
def beqV (neg : Bool) : Value → Value → Value
  | .bool a, .bool b => .bool (if neg then decide (a ≠ b) else decide (a = b))
  | _, _ => undef
def beqD : Value → Value → Prop
  | .bool _, .bool _ => True
  | _, _ => False
/-- A slice against nil. -/
def snilV (neg : Bool) : Value → Value → Value
  | .slice a _ _, .slice none _ _ => .bool (if neg then a.isSome else a.isNone)
  | _, _ => undef
def snilD : Value → Value → Prop
  | .slice _ _ _, .slice none _ _ => True
  | _, _ => False
def mxV (x y : Value) : Value :=
  match x, y with
  | .int k a, .int _ b => .int k (if a < b then b else a)
  | _, _ => undef
def mnV (x y : Value) : Value :=
  match x, y with
  | .int k a, .int _ b => .int k (if b < a then b else a)
  | .string a, .string b => S (if Op.bytesLess a.data.toList b.data.toList || decide (a.data.toList = b.data.toList) then a.data.toList else b.data.toList)
  | _, _ => undef
def mnD (x y : Value) : Prop :=
  match x, y with
  | .int k _, .int k' _ => k = k'
  | .string _, .string _ => True
  | _, _ => False
def mxD (x y : Value) : Prop :=
  match x, y with
  | .int k _, .int k' _ => k = k'
  | _, _ => False
end

/-- The list with the values vs laid over it from place off on. -/
def spl (l : List Value) (off : Nat) (vs : List Value) : List Value := l.take off ++ vs ++ l.drop (off + vs.length)
theorem spl_one (l : List Value) (off : Nat) (v : Value) (h : off < l.length) : spl l off [v] = l.set off v := by
  unfold spl
  rw [List.set_eq_take_append_cons_drop, if_pos h]
  simp

theorem foldl_put (vs : List Value) : ∀ (k : Nat) (cs : Array Value) (off : Nat), (vs.zipIdx k).foldl (fun cs (c, j) => cs.setIfInBounds (off + j) c) cs = ⟨spl cs.toList (off + k) vs⟩ ∨ cs.size < off + k + vs.length := by
  induction vs with
  | nil => intro k cs off; left; simp [spl]
  | cons v vs ih =>
    intro k cs off
    rw [List.zipIdx_cons, List.foldl_cons]
    rcases ih (k + 1) (cs.setIfInBounds (off + k) v) off with h | h
    · by_cases hlt : cs.size < off + k + (v :: vs).length
      · exact Or.inr hlt
      · left
        rw [h]
        congr 1
        simp only [List.length_cons] at hlt
        unfold spl
        rw [Array.toList_setIfInBounds]
        have hl : off + k < cs.toList.length := by simp; omega
        rw [List.set_eq_take_append_cons_drop, if_pos hl]
        have e1 : (cs.toList.take (off + k)).length = off + k := by simp; omega
        rw [List.take_append, List.drop_append, e1]
        simp only [show off + (k + 1) - (off + k) = 1 from by omega, List.take_succ_cons, List.take_zero, List.length_cons]
        rw [show off + (k + 1) + vs.length - (off + k) = vs.length + 1 from by omega, List.drop_succ_cons, List.drop_drop]
        rw [List.take_of_length_le (by rw [e1]; omega), List.drop_of_length_le (by rw [e1]; omega)]
        simp only [List.append_assoc, List.cons_append, List.nil_append]
        rw [show off + k + 1 + vs.length = off + k + (vs.length + 1) from by omega]
    · right; simp at h ⊢; omega

/-- Two numbers in one value. -/
def keyPair : Value → Option (Int × Int)
  | .agg ⟨[.int .i64 x, .int .i64 y]⟩ => some (x, y)
  | _ => none
/-- Are two keys the same? Pairs of numbers, too. -/
def sameK (K : TypeDesc) (k a : Value) : Option Bool :=
  match K with
  | .array _ _ => match keyPair k, keyPair a with | some p, some q => some (decide (p = q)) | _, _ => none
  | _ => Instr.sameNow K k a
def nilK (K : TypeDesc) (k : Value) : Option (Option Value) :=
  match K with
  | .array _ _ => match keyPair k with | some _ => some none | none => none
  | _ => some none
/-- What a map holds under a key: the first entry whose key is the same. -/
def lkE (K : TypeDesc) (k : Value) : List (Value × Value) → Option (Option Value)
  | [] => nilK K k
  | (a, v) :: l => match sameK K k a with | some true => some (some v) | some false => lkE K k l | none => none
/-- The map's entries with v put under k. -/
def putE (K : TypeDesc) (k v : Value) : List (Value × Value) → List (Value × Value)
  | [] => [(k, v)]
  | (a, b) :: l => match sameK K k a with | some true => (k, v) :: l | _ => (a, b) :: putE K k v l
def entriesOf (es : Array MapEntry) : List (Value × Value) := es.toList.map fun e => (e.key, e.val)
/-- The entries of the map x. -/
def mapAt (w : World) (x : Value) : Option (List (Value × Value)) :=
  match x with
  | .map none => some []
  | .map (some r) => match w.heap[r]? with | some (.map es _) => some (entriesOf es) | _ => none
  | _ => none
def mlkR (co : Bool) (zero : Value) (r : Option (Option Value)) : Value :=
  match r with
  | some (some v) => if co then .tuple ⟨[v, .bool true]⟩ else v
  | some none => if co then .tuple ⟨[zero, .bool false]⟩ else zero
  | none => undef
def mlkV (w : World) (co : Bool) (K : TypeDesc) (zero x k : Value) : Value := mlkR co zero ((mapAt w x).bind (lkE K k))
def mlkD (w : World) (K : TypeDesc) (x k : Value) : Prop := ((mapAt w x).bind (lkE K k)).isSome = true
/-- The value takes one cell. -/
def oneC (v : Value) : Prop := v.cells = #[v]
/-- A struct's cells by its parts: place, size (0: one cell), value. -/
def bldL (cs : List Value) : List (Nat × Nat × Value) → List Value
  | [] => cs
  | (o, 0, v) :: l => bldL (cs.set o v) l
  | (o, _ + 1, v) :: l => bldL (spl cs o v.cells.toList) l
def bldP : List (Nat × Nat × Value) → Prop
  | [] => True
  | (_, 0, v) :: l => oneC v ∧ bldP l
  | (_, n + 1, v) :: l => v.cells.size = n + 1 ∧ bldP l

inductive XO where
  | mv (x : VO)
  | pick (c a b : VO)
  | bin (op : BinOp) (x y : VO)
  | beq (neg : Bool) (x y : VO)
  | snil (neg : Bool) (x y : VO)
  | not (x : VO)
  | neg (x : VO)
  | cvi (k : IntKind) (x : VO)
  | len (x : VO)
  | lens (x : VO)
  | caps (x : VO)
  | idx (x i : VO)
  | sub (x : VO) (lo hi : Option VO)
  | ssl (z : Nat) (x : VO) (lo hi : Option VO)
  | fa (off : Nat) (x : VO)
  | ia (z : Nat) (x i : VO)
  | ld (x : VO)
  | lda (n : Nat) (x : VO)
  | fld (off : Nat) (x : VO)
  | flda (off n : Nat) (x : VO)
  | nil (x : VO)
  | ext (i : Nat) (x : VO)
  | mx (x y : VO)
  | mn (x y : VO)
  | bld (zero : List Value) (ps : List (Nat × Nat × VO))
  | mkf (f : Nat) (first cap : List VO)
  | mlk (co : Bool) (K : TypeDesc) (zero : Value) (x i : VO)

def qv (e : Env) (w : World) : XO → Value
  | .mv x => ev e x
  | .pick c a b => pickV (ev e c) (ev e a) (ev e b)
  | .bin op x y => binV op (ev e x) (ev e y)
  | .beq n x y => beqV n (ev e x) (ev e y)
  | .snil n x y => snilV n (ev e x) (ev e y)
  | .not x => notV (ev e x)
  | .neg x => negV (ev e x)
  | .cvi k x => cviV k (ev e x)
  | .len x => lenV (ev e x)
  | .lens x => lensV (ev e x)
  | .caps x => capsV (ev e x)
  | .idx x i => idxV (ev e x) (ev e i)
  | .sub x lo hi => subV (ev e x) (lo.map (ev e)) (hi.map (ev e))
  | .ssl z x lo hi => sslV z (ev e x) (lo.map (ev e)) (hi.map (ev e))
  | .fa o x => faV o (ev e x)
  | .ia z x i => iaV z (ev e x) (ev e i)
  | .ld x => ldV w (ev e x)
  | .lda n x => ldaV w n (ev e x)
  | .fld o x => fldV o (ev e x)
  | .flda o n x => fldaV o n (ev e x)
  | .nil x => ev e x
  | .ext i x => extV i (ev e x)
  | .mx x y => mxV (ev e x) (ev e y)
  | .mn x y => mnV (ev e x) (ev e y)
  | .bld z ps => .agg ⟨bldL z (ps.map fun p => (p.1, p.2.1, ev e p.2.2))⟩
  | .mkf f first cap => .func (.func f) ⟨first.map (ev e)⟩ ⟨cap.map (ev e)⟩
  | .mlk co K z x i => mlkV w co K z (ev e x) (ev e i)

def qd (e : Env) (w : World) : XO → Prop
  | .mv _ => True
  | .pick c _ _ => asBD (ev e c)
  | .bin op x y => binD op (ev e x) (ev e y)
  | .beq _ x y => beqD (ev e x) (ev e y)
  | .snil _ x y => snilD (ev e x) (ev e y)
  | .not x => asBD (ev e x)
  | .neg x => negD (ev e x)
  | .cvi k x => cviD k (ev e x)
  | .len x => lenD (ev e x)
  | .lens x => lensD (ev e x)
  | .caps x => lensD (ev e x)
  | .idx x i => idxD (ev e x) (ev e i)
  | .sub x lo hi => subD (ev e x) (lo.map (ev e)) (hi.map (ev e))
  | .ssl _ x lo hi => sslD (ev e x) (lo.map (ev e)) (hi.map (ev e))
  | .fa _ x => isP (ev e x)
  | .ia _ x i => iaD (ev e x) (ev e i)
  | .ld x => ldD w (ev e x)
  | .lda n x => ldaD w n (ev e x)
  | .fld o x => fldD o (ev e x)
  | .flda _ _ x => isAg (ev e x)
  | .nil x => isN (ev e x)
  | .ext i x => extD i (ev e x)
  | .mx x y => mxD (ev e x) (ev e y)
  | .mn x y => mnD (ev e x) (ev e y)
  | .bld _ ps => bldP (ps.map fun p => (p.1, p.2.1, ev e p.2.2))
  | .mkf _ _ _ => True
  | .mlk _ K _ x i => mlkD w K (ev e x) (ev e i)

/-- The small operation that reads memory: its value hangs on the world. -/
def XO.reads : XO → Bool
  | .ld _ | .lda _ _ | .mlk .. => true
  | _ => false

def XO.tmps : XO → List Nat
  | .mv x | .not x | .neg x | .cvi _ x | .len x | .lens x | .caps x | .fa _ x | .ld x | .lda _ x | .fld _ x | .flda _ _ x | .nil x | .ext _ x => x.tmps
  | .pick c a b => c.tmps ++ (a.tmps ++ b.tmps)
  | .bin _ x y | .beq _ x y | .snil _ x y | .idx x y | .ia _ x y | .mx x y | .mn x y => x.tmps ++ y.tmps
  | .sub x lo hi | .ssl _ x lo hi => x.tmps ++ ((lo.map VO.tmps).getD [] ++ (hi.map VO.tmps).getD [])
  | .bld _ ps => ps.flatMap fun p => p.2.2.tmps
  | .mkf _ first cap => first.flatMap VO.tmps ++ cap.flatMap VO.tmps
  | .mlk _ _ _ x y => x.tmps ++ y.tmps

def isAggB (P : Program) (T : TypeId) : Option Bool :=
  match P.underlying T with
  | some (.struct _) | some (.array _ _) => some true
  | some _ => some false
  | none => none

def convCall (P : Program) : Callee → List Operand → List TypeId → Option XO
  | .builtin .len, [x], [T] =>
    match P.underlying T with
    | some .string => some (.len (cvO x))
    | some (.slice _) => some (.lens (cvO x))
    | _ => none
  | .builtin .cap, [x], [T] =>
    match P.underlying T with
    | some (.slice _) => some (.caps (cvO x))
    | _ => none
  | .builtin .max, [x, y], _ => some (.mx (cvO x) (cvO y))
  | .builtin .min, [x, y], _ => some (.mn (cvO x) (cvO y))
  | _, _, _ => none

/-- A map's key type whose keys are compared as they stand. -/
def keyDesc (P : Program) (T : TypeId) : Option (TypeDesc × TypeId) :=
  match P.underlying T with
  | some (.map k e) =>
    match P.underlying k with
    | some .string => some (.string, e)
    | some (.int i) => some (.int i, e)
    | some .bool => some (.bool, e)
    | some (.array 2 el) =>
      match P.underlying el, P.info? el with
      | some (.int .i64), some ie => if ie.size = 1 then some (.array 2 el, e) else none
      | _, _ => none
    | _ => none
  | _ => none
def bldConv (P : Program) (places : List (Nat × Nat)) (fs : List TypeId) (n : Nat) : List (Nat × Operand) → Option (List (Nat × Nat × VO))
  | [] => some []
  | (f, x) :: r =>
    match places[f]?, fs[f]? with
    | some (off, sz), some fd =>
      match isAggB P fd with
      | some ag => if off + sz ≤ n ∧ sz ≠ 0 ∧ (ag = false → sz = 1) then (bldConv P places fs n r).map ((off, if ag then sz else 0, cvO x) :: ·) else none
      | none => none
    | _, _ => none

/-- From the model's operation to the small one. -/
def convQ (P : Program) : Op → Option XO
  | .move x | .assign x => some (.mv (cvO x))
  | .pick c a b => some (.pick (cvO c) (cvO a) (cvO b))
  | .binOp .eql T x y _ =>
    match P.underlying T with
    | some .bool => some (.beq false (cvO x) (cvO y))
    | some (.slice _) => some (.snil false (cvO x) (cvO y))
    | some (.int _) | some .string => some (.bin .eql (cvO x) (cvO y))
    | _ => none
  | .binOp .neq T x y _ =>
    match P.underlying T with
    | some .bool => some (.beq true (cvO x) (cvO y))
    | some (.slice _) => some (.snil true (cvO x) (cvO y))
    | some (.int _) | some .string => some (.bin .neq (cvO x) (cvO y))
    | _ => none
  | .binOp op _ x y _ => some (.bin op (cvO x) (cvO y))
  | .unOp .not _ x => some (.not (cvO x))
  | .unOp .neg _ x => some (.neg (cvO x))
  | .convert s d x =>
    match P.underlying s, P.underlying d with
    | some (.int _), some (.int k) => some (.cvi k (cvO x))
    | _, _ => none
  | .slice T x lo hi none =>
    match P.underlying T with
    | some .string => some (.sub (cvO x) (lo.map cvO) (hi.map cvO))
    | some (.slice E) => (P.info? E).map fun i => .ssl i.size (cvO x) (lo.map cvO) (hi.map cvO)
    | _ => none
  | .fieldAddr T x f =>
    match P.underlying T with
    | some (.struct fs) =>
      match fs[f]? with
      | some fd =>
        match P.info? fd.type with
        | some i => if i.size = 0 then none else some (.fa fd.offset (cvO x))
        | none => none
      | none => none
    | _ => none
  | .indexAddr T x i =>
    match P.underlying T with
    | some (.slice E) => (P.info? E).map fun j => .ia j.size (cvO x) (cvO i)
    | _ => none
  | .index T x i =>
    match P.underlying T with
    | some .string => some (.idx (cvO x) (cvO i))
    | _ => none
  | .load T x =>
    match isAggB P T with
    | some false => some (.ld (cvO x))
    | some true => (P.info? T).map fun i => .lda i.size (cvO x)
    | none => none
  | .field T x f =>
    match P.underlying T with
    | some (.struct fs) =>
      match fs[f]? with
      | some fd =>
        match isAggB P fd.type with
        | some false => some (.fld fd.offset (cvO x))
        | some true => (P.info? fd.type).map fun i => .flda fd.offset i.size (cvO x)
        | none => none
      | none => none
    | _ => none
  | .build T parts =>
    match P.info? T, P.underlying T with
    | some it, some (.struct fields) =>
      match it.zero, fields.toList.mapM (fun f => (P.info? f.type).map fun i => (f.offset, i.size)) with
      | some z, some places => (bldConv P places (fields.toList.map fun f => f.type) z.cells.size parts.toList).map fun ps => .bld z.cells.toList ps
      | _, _ => none
    | some it, some (.array len el) =>
      match it.zero, P.info? el with
      | some z, some ie => (bldConv P ((List.range len).map fun i => (i * ie.size, ie.size)) (List.replicate len el) z.cells.size parts.toList).map fun ps => .bld z.cells.toList ps
      | _, _ => none
    | _, _ => none
  | .lookup T x i co =>
    match keyDesc P T with
    | some (K, e) =>
      match P.info? e with
      | some j => j.zero.map fun z => .mlk co K z (cvO x) (cvO i)
      | none => none
    | none => none
  | .nilCheck x => some (.nil (cvO x))
  | .makeFunc (.func f) first cap => some (.mkf f (first.toList.map cvO) (cap.toList.map cvO))
  | .extract x i => some (.ext i (cvO x))
  | .call c => convCall P c.callee c.args.toList c.argTypes.toList
  | _ => none
end Go.Proofs.YtnbnofmnbopknaaDoor
