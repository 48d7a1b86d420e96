/-
  The readings of scored patterns.
  Conditions: none.
-/
import Derived.Test.YtpnopboffalfnaaA5
import Derived.Test.YtpnopboffalfnaaVo
import Derived.Test.YtpnopboffalfnaaVi
set_option linter.unusedSimpArgs false
set_option linter.unusedVariables false
set_option linter.defProp false
namespace Go.Proofs.Ytpnopboffalfnaa
open Go Go.RowKit Go.WideShapes
set_option maxRecDepth 100000 in
theorem opens_LK {H : Type} {enc : TypeId × Value → H} {w : World} {base : Nat} {sp : Nat → Bool} {held : Bool} : Opens enc Try.prog w base sp held 148 fK (fun x => x.pat.length ≤ 9223372036854775807) := fun n cs x h => by
  obtain ⟨y0, y1, m, hl, h0, h1⟩ := trod_struct2 Try.underlying148 h
  rw [show Try.prog.cellsOf 148 = 2 by kernel_rfl] at hl
  obtain ⟨a, b, rfl⟩ : ∃ a b, cs = [a, b] := by match cs, hl with | [a, b], _ => exact ⟨a, b, rfl⟩
  obtain ⟨s, e0, hs⟩ := opens_str Try.underlying9 _ _ _ h0
  obtain ⟨i, e1, _⟩ := opens_int Try.underlying3 _ _ _ h1
  rw [show Try.prog.cellsOf _ = 1 by kernel_rfl] at e0 e1
  simp only [List.drop_zero, List.take_succ_cons, List.take_zero, List.drop_succ_cons, fS, fI, List.cons.injEq, and_true] at e0 e1
  subst e0; subst e1
  exact ⟨⟨s, i⟩, rfl, hs⟩
end Go.Proofs.Ytpnopboffalfnaa
