/- For every drawn method, a complete search reports as many touches as exhaustive enumeration finds; program and reference agree.
   Conditions: none. -/
import Derived.Test.YtfklonhjgkahdaaKD61
import Derived.Test.YtfklonhjgkahdaaKVi
import Derived.Test.YtfklonhjgkahdaaKVl
set_option linter.unusedSimpArgs false
set_option linter.unusedVariables false
set_option linter.defProp false
namespace Go.Proofs.Ytfklonhjgkahdaa
open Go Go.RowKit Go.ChangeShapes Go.WideShapes Go.ChangeAt Go.ChangeMaps
set_option maxHeartbeats 40000000 in
set_option maxRecDepth 100000 in
theorem FnComplete_holds : Rows.FnCompleteSaid :=
  OpenClaim.holds_of_wide 5 Try.f5 rfl rfl rfl rfl rfl rfl rfl ⟨rfl, rfl, rfl, rfl, rfl⟩ rfl rfl rfl rfl rfl (by kernel_rfl) Try.func5 (by unfold joinedFacts; simp only [Bool.and_eq_true]; (repeat' apply And.intro) <;> decide +kernel)
    (of_decide_eq_true (by kernel_rfl)) (by unfold Func.isWrapper; first | (rw [if_pos (by decide +kernel)]; kernel_rfl) | (rw [if_neg (by decide +kernel)]; exact ⟨rfl, rfl⟩))
    (fun os started H enc _ => law_lift (s := Rows.fnCompleteSpec) started (by kernel_rfl) Try.func5 Try.underlying4 rfl rfl (by kernel_rfl) (fun ds hl => by match ds, hl with | [d1, d2], _ => exact ⟨rfl, rfl, rfl⟩)
      (ChangeSpec.witness6 (enc := enc) (C := Try.checked) false ⟨#[], #[.slice none 0 0, .slice none 0 0], []⟩ 8 (by kernel_rfl) (by kernel_rfl) (by kernel_rfl) (by kernel_rfl))
      (fun W base args ds p hval hA _hsz => by
        have hA := hA
        rw [show Try.f5.params.toList = _ from rfl] at hA _hsz
        obtain ⟨v0, _, d0, _, p0, _, rfl, rfl, rfl, h0, hA⟩ := trodAll_cons hA; obtain ⟨v1, _, d1, _, p1, _, rfl, rfl, rfl, h1, hA⟩ := trodAll_cons hA; obtain ⟨rfl, rfl, rfl⟩ := trodAll_nil hA; have o0 := hval 0 _ v0 rfl rfl; have o1 := hval 1 _ v1 rfl rfl
        obtain ⟨l, hsq, hg, hl, hd0⟩ := open_sqD Try.underlying22 (by kernel_rfl) fU_len (opens_u8 Try.underlying5) o0 h0
        obtain ⟨l', hsq', hg', hl', hd1⟩ := open_sqD Try.underlying22 (by kernel_rfl) fU_len (opens_u8 Try.underlying5) o1 h1
        exact lFnComplete_ok v0 v1 l l' (sq_small _hsz 0 rfl rfl Try.underlying22 (by decide +kernel) hd0) (sq_small _hsz 1 rfl rfl Try.underlying22 (by decide +kernel) hd1) W hsq hsq'
))
end Go.Proofs.Ytfklonhjgkahdaa
