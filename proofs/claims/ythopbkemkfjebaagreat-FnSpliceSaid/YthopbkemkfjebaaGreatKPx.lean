/-
  Plain lists: the truth of leads that follow one another. No program.
  Conditions: none.
-/
import Derived.Test.YthopbkemkfjebaaGreatKA34
import Derived.Test.YthopbkemkfjebaaGreatKPc
import Derived.Test.YthopbkemkfjebaaGreatKPd
import Derived.Test.YthopbkemkfjebaaGreatKPs
set_option linter.unusedSimpArgs false
set_option linter.unusedVariables false
set_option linter.defProp false
namespace Go.Proofs.YthopbkemkfjebaaGreat
open Go
/-- A group. -/
structure Grp (G : Type) where
  mul : G → G → G
  one : G
  inv : G → G
  assoc : ∀ a b c, mul (mul a b) c = mul a (mul b c)
  one_mul : ∀ a, mul one a = a
  mul_one : ∀ a, mul a one = a
  inv_mul : ∀ a, mul (inv a) a = one
  mul_inv : ∀ a, mul a (inv a) = one
namespace Grp
variable {G α : Type} (g : Grp G)
def prod (H : α → G) (t : List α) : G := t.foldr (fun c r => g.mul (H c) r) g.one
theorem prod_nil (H : α → G) : g.prod H [] = g.one := rfl
theorem prod_cons (H : α → G) (c : α) (t : List α) : g.prod H (c :: t) = g.mul (H c) (g.prod H t) := rfl
end Grp
/-- The rows of a stage. -/
def Rw (n : Nat) : Type := {l : List UInt8 // IsRow l ∧ l.length = n}
def rwG (n : Nat) (hn : 3 ≤ n ∧ n ≤ 8) : Grp (Rw n) where
  mul a b := ⟨timesL a.1 b.1, timesL_row a.2.1 b.2.1 (a.2.2.trans b.2.2.symm), by rw [timesL_len, b.2.2]⟩
  one := ⟨roundsL n, roundsL_row n hn, roundsL_len n⟩
  inv a := ⟨turnL a.1, turnL_row a.2.1, by rw [turnL_len, a.2.2]⟩
  assoc a b c := Subtype.ext (timesL_assoc a.1 c.2.1 (b.2.2.trans c.2.2.symm))
  one_mul a := Subtype.ext (by show timesL (roundsL n) a.1 = a.1; have := rounds_times a.2.1; rwa [a.2.2] at this)
  mul_one a := Subtype.ext (by show timesL a.1 (roundsL n) = a.1; have := times_rounds (a := a.1) (by rw [a.2.2]; exact hn.2); rwa [a.2.2] at this)
  inv_mul a := Subtype.ext (by show timesL (turnL a.1) a.1 = roundsL n; rw [turn_times a.2.1, a.2.2])
  mul_inv a := Subtype.ext (by show timesL a.1 (turnL a.1) = roundsL n; rw [times_turn a.2.1, a.2.2])
/-- The product of the rows of some letters. -/
def prodL {α : Type} (H : α → List UInt8) (n : Nat) (t : List α) : List UInt8 := t.foldl (fun r c => timesL r (H c)) (roundsL n)
theorem fold_val {α : Type} {n : Nat} (hn : 3 ≤ n ∧ n ≤ 8) (H : α → Rw n) : ∀ (t : List α) (r : Rw n), t.foldl (fun r c => timesL r (H c).1) r.1 = ((rwG n hn).mul r ((rwG n hn).prod H t)).1 := by
  intro t
  induction t with
  | nil => intro r; rw [Grp.prod_nil, Grp.mul_one]; rfl
  | cons c t ih =>
    intro r
    rw [List.foldl_cons, Grp.prod_cons, ← Grp.assoc]
    exact ih ((rwG n hn).mul r (H c))
theorem prodL_val {α : Type} {n : Nat} (hn : 3 ≤ n ∧ n ≤ 8) (H : α → Rw n) (t : List α) : prodL (fun c => (H c).1) n t = ((rwG n hn).prod H t).1 := by
  have := fold_val hn H t (rwG n hn).one
  rw [Grp.one_mul] at this
  exact this
section
variable {α : Type} {n : Nat} {H : α → List UInt8} (hn : 3 ≤ n ∧ n ≤ 8) (hH : ∀ c, IsRow (H c) ∧ (H c).length = n)
include hn hH
theorem prodL_row (t : List α) : IsRow (prodL H n t) ∧ (prodL H n t).length = n := by
  have e := prodL_val hn (fun c => (⟨H c, hH c⟩ : Rw n)) t
  have := ((rwG n hn).prod (fun c => (⟨H c, hH c⟩ : Rw n)) t).2
  rw [← e] at this
  exact this
end
theorem under_row {n : Nat} (hn : 3 ≤ n ∧ n ≤ 8) (cs : List (List UInt8)) : IsRow (underL (roundsL n) cs) ∧ (underL (roundsL n) cs).length = n := ⟨underL_row _ (roundsL_row n hn), by rw [underL_len, roundsL_len]⟩
end Go.Proofs.YthopbkemkfjebaaGreat
namespace Go.Proofs.YthopbkemkfjebaaGreat
open Go
/-- The lead from rounds. -/
def leadR (n : Nat) (cs : List Bs) : List Bs := rowsU (roundsL n) cs cs.length
theorem leadR_len (n : Nat) (cs : List Bs) : (leadR n cs).length = cs.length := rowsU_len _ _ _
theorem leadR_rows {n : Nat} (hn : 3 ≤ n ∧ n ≤ 8) (cs : List Bs) : ∀ r ∈ leadR n cs, IsRow r ∧ r.length = n := fun r hr => by
  obtain ⟨i, _, rfl⟩ := List.mem_map.1 hr
  exact under_row hn _
/-- The rows f such that the rows of A and those of B behind f meet. -/
def falseL (A B : List Bs) : List Bs := A.flatMap fun r => B.map fun s => timesL r (turnL s)
theorem falseL_mem (A B : List Bs) (f : Bs) : f ∈ falseL A B ↔ ∃ r ∈ A, ∃ s ∈ B, f = timesL r (turnL s) := by
  unfold falseL
  simp only [List.mem_flatMap, List.mem_map]
  exact ⟨fun ⟨r, hr, s, hs, e⟩ => ⟨r, hr, s, hs, e.symm⟩, fun ⟨r, hr, s, hs, e⟩ => ⟨r, hr, s, hs, e.symm⟩⟩
end Go.Proofs.YthopbkemkfjebaaGreat
