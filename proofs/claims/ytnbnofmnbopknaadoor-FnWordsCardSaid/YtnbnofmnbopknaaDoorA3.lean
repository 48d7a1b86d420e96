/-
  RunsIn and FitsRow: what program and reference compute; the calls of the laws FnExactRunsIn and FnExactFitsRow.
  Conditions: none.
-/
import Derived.Test.YtnbnofmnbopknaaDoorA2
set_option linter.unusedSimpArgs false
set_option linter.unusedVariables false
set_option linter.defProp false
namespace Go.Proofs.YtnbnofmnbopknaaDoor
open Go Go.RowKit
section
variable (P : Program) (k : KT) (e : Env) (w : World)
end

/-- How many numbers below k have p. -/
def cnt (p : Nat → Bool) : Nat → Nat
  | 0 => 0
  | k + 1 => cnt p k + if p k then 1 else 0
theorem cnt_le (p : Nat → Bool) (k : Nat) : cnt p k ≤ k := by
  induction k with
  | zero => exact Nat.le_refl _
  | succ k ih => unfold cnt; split <;> omega
theorem cnt_t {p : Nat → Bool} {k : Nat} (h : p k = true) : ((cnt p (k + 1) : Nat) : Int) = (cnt p k : Nat) + 1 := by simp [cnt, h]
theorem cnt_f {p : Nat → Bool} {k : Nat} (h : p k = false) : cnt p (k + 1) = cnt p k := by simp [cnt, h]
/-- From place 1 to place k - 1 each byte is the one ahead of it and d. -/
def RunBy (l : List UInt8) (d : Int) (k : Nat) : Prop := ∀ i < k, 1 ≤ i → ((l.getD i 0).toNat : Int) - (l.getD (i - 1) 0).toNat = d
instance (l : List UInt8) (d : Int) (k : Nat) : Decidable (RunBy l d k) := by unfold RunBy; infer_instance
theorem RunBy.succ {l : List UInt8} {d : Int} {k : Nat} (h : RunBy l d k) (h1 : 1 ≤ k → ((l.getD k 0).toNat : Int) - (l.getD (k - 1) 0).toNat = d) : RunBy l d (k + 1) := fun i hi h2 => by
  by_cases he : i = k
  · subst he; exact h1 h2
  · exact h i (by omega) h2
theorem RunBy_succ {l : List UInt8} {d : Int} {k : Nat} : RunBy l d (k + 1) ↔ RunBy l d k ∧ (1 ≤ k → ((l.getD k 0).toNat : Int) - (l.getD (k - 1) 0).toNat = d) :=
  ⟨fun h => ⟨fun i hi h1 => h i (by omega) h1, fun h1 => h k (by omega) h1⟩, fun h => h.1.succ h.2⟩
/-- The run of n bells from place i on. -/
def RunAt (l : List UInt8) (n i : Nat) : Bool := decide (RunBy ((l.take (i + n)).drop i) 1 n) || decide (RunBy ((l.take (i + n)).drop i) (-1) n)
theorem sub_len (l : List UInt8) (i n : Nat) (h : i + n ≤ l.length) : ((l.take (i + n)).drop i).length = n := by simp; omega
def runsOf (l : List UInt8) (n : Int) : Value := if IsRow l ∧ 2 ≤ n ∧ n ≤ l.length then .tuple ⟨[.int .i64 (cnt (RunAt l n.toNat) (l.length + 1 - n.toNat)), .bool true]⟩ else .tuple ⟨[.int .i64 0, .bool false]⟩
/-- The pattern p fits the bells r. -/
def fitsL : List UInt8 → List UInt8 → Bool
  | [], r => decide (r = [])
  | c :: p, [] => decide ((c.toNat : Int) = 42) && fitsL p []
  | c :: p, d :: r => if (c.toNat : Int) = 42 then fitsL p (d :: r) || fitsL (c :: p) r else (decide ((c.toNat : Int) = 63) || decide ((c.toNat : Int) = (d.toNat : Int))) && fitsL p r
termination_by p r => p.length + r.length
def fitsV (p r : List UInt8) : Value := if IsPat p ∧ IsRow r then .tuple ⟨[.bool (fitsL p r), .bool true]⟩ else .tuple ⟨[.bool false, .bool false]⟩
end Go.Proofs.YtnbnofmnbopknaaDoor
