/-
  Rows by rank; the rows that fit a pattern; the call of the law FnExactRowsThatFit.
  Conditions: none.
-/
import Derived.Test.YtnbnofmnbopknaaDoorA3
import Derived.Test.YtnbnofmnbopknaaDoorA6
import Derived.Test.YtnbnofmnbopknaaDoorPd
set_option linter.unusedSimpArgs false
set_option linter.unusedVariables false
set_option linter.defProp false
namespace Go.Proofs.YtnbnofmnbopknaaDoor
open Go Go.RowKit
section
variable (P : Program) (k : KT) (e : Env) (w : World)
end

theorem roundsS : ∀ n < 9, ([49, 50, 51, 52, 53, 54, 55, 56] : List UInt8).take n = roundsL n := by decide
theorem factL_mul (k : Nat) : ((factL (k + 1) : Nat) : Int) * ((k + 2 : Nat) : Int) = (factL (k + 1 + 1) : Nat) := by
  rw [← Int.natCast_mul, Nat.mul_comm]; rfl
theorem Own.mono {α : Type} {f : α → List Value} {z E B B' : Nat} {w : World} {v : Value} {l : List α} (h : Own f z E B w v l) (hB : B' ≤ B) : Own f z E B' w v l :=
  ⟨h.1, h.2.imp id fun ⟨g, cap, cur, e, hg, hr⟩ => ⟨g, cap, cur, e, Nat.le_trans hB hg, hr⟩⟩
/-- The rows of stage n that fit a pattern, those below rank k. -/
def fitRows (p : List UInt8) (n k : Nat) : List (List UInt8) := ((List.range k).map (rowGo n (roundsL n))).filter (fitsL p)
theorem fitRows_len (p : List UInt8) (n k : Nat) : (fitRows p n k).length ≤ k := by
  unfold fitRows
  refine Nat.le_trans (List.length_filter_le _ _) ?_
  simp
theorem fitRows_succ (p : List UInt8) (n k : Nat) : fitRows p n (k + 1) = fitRows p n k ++ if fitsL p (rowGo n (roundsL n) k) then [rowGo n (roundsL n) k] else [] := by
  unfold fitRows
  rw [List.range_succ, List.map_append, List.filter_append]
  simp only [List.map_cons, List.map_nil, List.filter_cons, List.filter_nil]
/-- What RowsThatFit answers. -/
def fitAll (p : List UInt8) (n : Int) : List (List UInt8) := if IsPat p ∧ 3 ≤ n ∧ n ≤ 6 then fitRows p n.toNat (factL n.toNat) else []
theorem fitAll_len (p : List UInt8) (n : Int) : (fitAll p n).length ≤ 40320 := by
  unfold fitAll
  split
  · have := fitRows_len p n.toNat (factL n.toNat)
    have := factL_le n.toNat (by omega)
    omega
  · simp
end Go.Proofs.YtnbnofmnbopknaaDoor
