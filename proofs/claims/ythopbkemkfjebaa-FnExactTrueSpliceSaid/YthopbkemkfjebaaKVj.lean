/-
  What a law's input of a method reads.
  Conditions: none.
-/
import Derived.Test.YthopbkemkfjebaaKA11
import Derived.Test.YthopbkemkfjebaaKVi
set_option linter.unusedSimpArgs false
set_option linter.unusedVariables false
set_option linter.defProp false
namespace Go.Proofs.Ythopbkemkfjebaa
open Go Go.RowKit Go.WideShapes
section
variable {H : Type} {enc : TypeId × Value → H} {P : Program} {w : World} {base : Nat} {sp : Nat → Bool} {held : Bool}
theorem trod_struct3 {t : TypeId} {f0 f1 f2 : Field} {fuel : Nat} {cs : List Value} {x : DataW H × List MemPlace} (ht : P.underlying t = some (.struct #[f0, f1, f2])) (h : DataW.trod enc P w base sp held fuel t cs = some x) :
    ∃ y0 y1 y2 n, cs.length = P.cellsOf t ∧ DataW.trod enc P w base sp held n f0.type ((cs.drop f0.offset).take (P.cellsOf f0.type)) = some y0 ∧
      DataW.trod enc P w base sp held n f1.type ((cs.drop f1.offset).take (P.cellsOf f1.type)) = some y1 ∧ DataW.trod enc P w base sp held n f2.type ((cs.drop f2.offset).take (P.cellsOf f2.type)) = some y2 := by
  obtain ⟨xs, n, _, rfl, hl, hlen, hf⟩ := DataW.trod_struct ht h
  match xs, hlen with
  | [y0, y1, y2], _ => exact ⟨y0, y1, y2, n, hl, by simpa using hf 0 f0 rfl, by simpa using hf 1 f1 rfl, by simpa using hf 2 f2 rfl⟩
end
/-- A method's cells: a word, a stage, changes. -/
def MRead (w : World) (cs : List Value) : Prop := ∃ nm st x l, cs = fM nm st x ∧ Sq fS 1 w x l ∧ nm.length ≤ 9223372036854775807 ∧ l.length ≤ 9223372036854775807 ∧ ∀ c ∈ l, c.length ≤ 9223372036854775807
set_option maxRecDepth 100000 in
theorem opens_M {H : Type} {enc : TypeId × Value → H} {w : World} {base : Nat} {sp : Nat → Bool} {held : Bool} {n : Nat} {cs : List Value} {x : DataW H × List MemPlace} (h : DataW.trod enc Try.prog w base sp held n 116 cs = some x) : MRead w cs := by
  obtain ⟨y0, y1, y2, m, hl, h0, h1, h2⟩ := trod_struct3 Try.underlying116 h
  rw [show Try.prog.cellsOf 116 = 3 by kernel_rfl] at hl
  obtain ⟨a, b, c, rfl⟩ : ∃ a b c, cs = [a, b, c] := by match cs, hl with | [a, b, c], _ => exact ⟨a, b, c, rfl⟩
  obtain ⟨s, e0, hs⟩ := opens_str Try.underlying9 _ _ _ h0
  obtain ⟨i, e1, _⟩ := opens_int Try.underlying3 _ _ _ h1
  obtain ⟨v, l, e2, hsq, hg, hll⟩ := opens_slice Try.underlying24 (by kernel_rfl) fS_len (opens_str Try.underlying9) h2
  rw [show Try.prog.cellsOf _ = 1 by kernel_rfl] at e0 e1 e2
  simp only [List.drop_zero, List.take_succ_cons, List.take_zero, List.drop_succ_cons, fS, fI, List.cons.injEq, and_true] at e0 e1 e2
  subst e0; subst e1; subst e2
  exact ⟨s, i, _, l, rfl, hsq, hs, hll, hg⟩
end Go.Proofs.Ythopbkemkfjebaa
