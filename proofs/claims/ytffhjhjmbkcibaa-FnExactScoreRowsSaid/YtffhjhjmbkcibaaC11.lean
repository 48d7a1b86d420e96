/- For all arguments the program's ScoreRows answers what the reference's ScoreRows answers (inputs of bulk above 1048576 are let by, as the law says).
   Conditions: none. -/
import Derived.Test.YtffhjhjmbkcibaaA8
import Derived.Test.YtffhjhjmbkcibaaVl
import Derived.Test.YtffhjhjmbkcibaaVi
set_option linter.unusedSimpArgs false
set_option linter.unusedVariables false
set_option linter.defProp false
namespace Go.Proofs.Ytffhjhjmbkcibaa
open Go Go.RowKit Go.ChangeShapes Go.WideShapes Go.ChangeAt Go.ChangeMaps
set_option maxRecDepth 100000 in
theorem opens_LK {H : Type} {enc : TypeId × Value → H} {w : World} {base : Nat} {sp : Nat → Bool} {held : Bool} : Opens enc Try.prog w base sp held 96 fK (fun x => x.pat.length ≤ 9223372036854775807) := fun n cs x h => by
  obtain ⟨y0, y1, m, _, hl, h0, h1⟩ := trod_struct2 Try.underlying96 h
  rw [show Try.prog.cellsOf 96 = 2 by kernel_rfl] at hl
  obtain ⟨a, b, rfl⟩ : ∃ a b, cs = [a, b] := by match cs, hl with | [a, b], _ => exact ⟨a, b, rfl⟩
  obtain ⟨s, e0, hs⟩ := opens_str Try.underlying9 _ _ _ h0
  obtain ⟨i, e1, _⟩ := opens_int Try.underlying3 _ _ _ h1
  rw [show Try.prog.cellsOf _ = 1 by kernel_rfl] at e0 e1
  simp only [List.drop_zero, List.take_succ_cons, List.take_zero, List.drop_succ_cons, fS, fI, List.cons.injEq, and_true] at e0 e1
  subst e0; subst e1
  exact ⟨⟨s, i⟩, rfl, hs⟩
set_option maxRecDepth 100000 in
theorem FnExactScoreRows_holds : Rows.FnExactScoreRowsSaid :=
  OpenClaim.holds_of_wide 6 Try.f6 rfl rfl rfl rfl rfl rfl rfl ⟨rfl, rfl, rfl, rfl, rfl⟩ rfl rfl rfl rfl rfl (by kernel_rfl) Try.func6 (by kernel_rfl)
    (of_decide_eq_true (by kernel_rfl)) (by unfold Func.isWrapper; first | (rw [if_pos (by decide +kernel)]; kernel_rfl) | (rw [if_neg (by decide +kernel)]; exact ⟨rfl, rfl⟩))
    (fun os started H enc _ => law_lift (s := Rows.fnExactScoreRowsSpec) started (by kernel_rfl) Try.func6 Try.underlying4 rfl rfl (by kernel_rfl) (fun ds hl => by match ds, hl with | [d1, d2], _ => exact ⟨rfl, rfl, rfl⟩)
      (ChangeSpec.witness6 (enc := enc) (C := Try.checked) false ⟨#[], #[.slice none 0 0, .slice none 0 0], []⟩ 8 (by kernel_rfl) (by kernel_rfl) (by kernel_rfl) (by kernel_rfl))
      (fun W base args ds p hval hA _hsz => by
        have hA := hA
        rw [show Try.f6.params.toList = _ from rfl] at hA _hsz
        obtain ⟨v0, _, d0, _, p0, _, rfl, rfl, rfl, h0, hA⟩ := trodAll_cons hA; obtain ⟨v1, _, d1, _, p1, _, rfl, rfl, rfl, h1, hA⟩ := trodAll_cons hA; obtain ⟨rfl, rfl, rfl⟩ := trodAll_nil hA; have o0 := hval 0 _ v0 rfl rfl; have o1 := hval 1 _ v1 rfl rfl
        obtain ⟨ks, hsq, hg, hl⟩ := open_sq Try.underlying44 (by kernel_rfl) fK_len opens_LK o0 h0
        obtain ⟨l, hsq', hg', hl'⟩ := open_sq Try.underlying22 (by kernel_rfl) fS_len (opens_str Try.underlying9) o1 h1
        exact lFnExactScoreRows_ok v0 v1 ks l hl hg hl' hg' W hsq hsq'
))
end Go.Proofs.Ytffhjhjmbkcibaa
