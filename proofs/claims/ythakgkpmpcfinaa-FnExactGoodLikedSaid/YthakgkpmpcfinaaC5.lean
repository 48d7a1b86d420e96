/- For all arguments the program's GoodLiked answers what the reference's GoodLiked answers (inputs of bulk above 1048576 are let by, as the law says).
   Conditions: none. -/
import Derived.Test.YthakgkpmpcfinaaA5
import Derived.Test.YthakgkpmpcfinaaVl
import Derived.Test.YthakgkpmpcfinaaVi
set_option linter.unusedSimpArgs false
set_option linter.unusedVariables false
set_option linter.defProp false
namespace Go.Proofs.Ythakgkpmpcfinaa
open Go Go.RowKit Go.ChangeShapes Go.WideShapes Go.ChangeAt Go.ChangeMaps
theorem opens_LK {H : Type} {enc : TypeId × Value → H} {w : World} {base : Nat} {sp : Nat → Bool} {held : Bool} : Opens enc Try.prog w base sp held 44 fK (fun x => x.pat.length ≤ 9223372036854775807) := fun n cs x h => by
  obtain ⟨y0, y1, m, _, hl, h0, h1⟩ := trod_struct2 Try.underlying44 h
  rw [show Try.prog.cellsOf 44 = 2 by kernel_rfl] at hl
  obtain ⟨a, b, rfl⟩ : ∃ a b, cs = [a, b] := by match cs, hl with | [a, b], _ => exact ⟨a, b, rfl⟩
  obtain ⟨s, e0, hs⟩ := opens_str Try.underlying9 _ _ _ h0
  obtain ⟨i, e1, _⟩ := opens_int Try.underlying3 _ _ _ h1
  rw [show Try.prog.cellsOf _ = 1 by kernel_rfl] at e0 e1
  simp only [List.drop_zero, List.take_succ_cons, List.take_zero, List.drop_succ_cons, fS, fI, List.cons.injEq, and_true] at e0 e1
  subst e0; subst e1
  exact ⟨⟨s, i⟩, rfl, hs⟩
set_option maxRecDepth 100000 in
theorem FnExactGoodLiked_holds : Rows.FnExactGoodLikedSaid :=
  OpenClaim.holds_of_wide 7 Try.f7 rfl rfl rfl rfl rfl rfl rfl ⟨rfl, rfl, rfl, rfl, rfl⟩ rfl rfl rfl rfl rfl (by kernel_rfl) Try.func7 (by kernel_rfl)
    (of_decide_eq_true (by kernel_rfl)) (by unfold Func.isWrapper; first | (rw [if_pos (by decide +kernel)]; kernel_rfl) | (rw [if_neg (by decide +kernel)]; exact ⟨rfl, rfl⟩))
    (fun os started H enc _ => law_lift (s := Rows.fnExactGoodLikedSpec) started (by kernel_rfl) Try.func7 Try.underlying4 rfl rfl (by kernel_rfl) (fun ds hl => by match ds, hl with | [d], _ => exact ⟨rfl, rfl, rfl⟩)
      (ChangeSpec.witness6 (enc := enc) (C := Try.checked) false ⟨#[], #[.slice none 0 0], []⟩ 8 (by kernel_rfl) (by kernel_rfl) (by kernel_rfl) (by kernel_rfl))
      (fun W base args ds p hval hA _hsz => by
        have hA := hA
        rw [show Try.f7.params.toList = _ from rfl] at hA _hsz
        obtain ⟨v0, _, d0, _, p0, _, rfl, rfl, rfl, h0, hA⟩ := trodAll_cons hA; obtain ⟨rfl, rfl, rfl⟩ := trodAll_nil hA; have o0 := hval 0 _ v0 rfl rfl
        obtain ⟨l, hsq, hg, hl⟩ := open_sq Try.underlying31 (by kernel_rfl) fK_len opens_LK o0 h0
        exact lFnExactGoodLiked_ok v0 l hl hg W hsq
))
end Go.Proofs.Ythakgkpmpcfinaa
