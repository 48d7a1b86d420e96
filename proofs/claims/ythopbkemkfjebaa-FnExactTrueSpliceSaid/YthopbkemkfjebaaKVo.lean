/-
  What a law's input of calls reads.
  Conditions: none.
-/
import Derived.Test.YthopbkemkfjebaaKA17
import Derived.Test.YthopbkemkfjebaaKVj
set_option linter.unusedSimpArgs false
set_option linter.unusedVariables false
set_option linter.defProp false
namespace Go.Proofs.Ythopbkemkfjebaa
open Go Go.RowKit Go.WideShapes
theorem trod_struct2 {H : Type} {enc : TypeId × Value → H} {P : Program} {w : World} {base : Nat} {sp : Nat → Bool} {held : Bool} {t : TypeId} {f0 f1 : Field} {fuel : Nat} {cs : List Value} {x : DataW H × List MemPlace} (ht : P.underlying t = some (.struct #[f0, f1])) (h : DataW.trod enc P w base sp held fuel t cs = some x) :
    ∃ y0 y1 n, cs.length = P.cellsOf t ∧ DataW.trod enc P w base sp held n f0.type ((cs.drop f0.offset).take (P.cellsOf f0.type)) = some y0 ∧
      DataW.trod enc P w base sp held n f1.type ((cs.drop f1.offset).take (P.cellsOf f1.type)) = some y1 := by
  obtain ⟨xs, n, _, rfl, hl, hlen, hf⟩ := DataW.trod_struct ht h
  match xs, hlen with
  | [y0, y1], _ => exact ⟨y0, y1, n, hl, by simpa using hf 0 f0 rfl, by simpa using hf 1 f1 rfl⟩
set_option maxRecDepth 100000 in
theorem opens_Q {H : Type} {enc : TypeId × Value → H} {w : World} {base : Nat} {sp : Nat → Bool} {held : Bool} {n : Nat} {cs : List Value} {x : DataW H × List MemPlace} (h : DataW.trod enc Try.prog w base sp held n 56 cs = some x) :
    ∃ b s, cs = fQ b s ∧ b.length ≤ 9223372036854775807 ∧ s.length ≤ 9223372036854775807 := by
  obtain ⟨y0, y1, m, hl, h0, h1⟩ := trod_struct2 Try.underlying56 h
  rw [show Try.prog.cellsOf 56 = 2 by kernel_rfl] at hl
  obtain ⟨a, b, rfl⟩ : ∃ a b, cs = [a, b] := by match cs, hl with | [a, b], _ => exact ⟨a, b, rfl⟩
  obtain ⟨s, e0, hs⟩ := opens_str Try.underlying9 _ _ _ h0
  obtain ⟨s', e1, hs'⟩ := opens_str Try.underlying9 _ _ _ h1
  rw [show Try.prog.cellsOf _ = 1 by kernel_rfl] at e0 e1
  simp only [List.drop_zero, List.take_succ_cons, List.take_zero, List.drop_succ_cons, fS, List.cons.injEq, and_true] at e0 e1
  subst e0; subst e1
  exact ⟨s, s', rfl, hs, hs'⟩
set_option maxRecDepth 100000 in
theorem open_Q {H : Type} {enc : TypeId × Value → H} {w : World} {base : Nat} {sp : Nat → Bool} {held : Bool} {r : Reach} {b0 : Nat} {v : Value} {d : DataW H} {ps : List MemPlace} (hv : Value.okWide Try.prog w r b0 56 v) (h : DataW.Trod enc Try.prog w base sp held 56 v d ps) :
    ∃ b s, v = kV b s ∧ b.length ≤ 9223372036854775807 ∧ s.length ≤ 9223372036854775807 := by
  obtain ⟨⟨cs⟩, rfl, _⟩ := okWide_struct Try.underlying56 hv
  obtain ⟨m, hf⟩ := h
  obtain ⟨b, s, e, h⟩ := opens_Q hf
  exact ⟨b, s, by rw [show cs = fQ b s from e], h⟩
end Go.Proofs.Ythopbkemkfjebaa
