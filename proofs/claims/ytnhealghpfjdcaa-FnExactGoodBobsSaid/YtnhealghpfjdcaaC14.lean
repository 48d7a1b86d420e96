/- The program's GoodBobs returns what the reference's returns, and leaves its arguments as they were.
   Conditions: none. -/
import Derived.Test.YtnhealghpfjdcaaA64
import Derived.Test.YtnhealghpfjdcaaVo
import Derived.Test.YtnhealghpfjdcaaVl
import Derived.Test.YtnhealghpfjdcaaVi
set_option linter.unusedSimpArgs false
set_option linter.unusedVariables false
set_option linter.defProp false
namespace Go.Proofs.Ytnhealghpfjdcaa
open Go Go.RowKit Go.ChangeShapes Go.WideShapes Go.ChangeAt Go.ChangeMaps
set_option maxHeartbeats 40000000 in
set_option maxRecDepth 100000 in
theorem FnExactGoodBobs_holds : Rows.FnExactGoodBobsSaid :=
  OpenClaim.holds_of_wide 7 Try.f7 rfl rfl rfl rfl rfl rfl rfl ⟨rfl, rfl, rfl, rfl, rfl⟩ rfl rfl rfl rfl rfl (by kernel_rfl) Try.func7 (by unfold joinedFacts; simp only [Bool.and_eq_true]; (repeat' apply And.intro) <;> decide +kernel)
    (of_decide_eq_true (by kernel_rfl)) (by unfold Func.isWrapper; first | (rw [if_pos (by decide +kernel)]; kernel_rfl) | (rw [if_neg (by decide +kernel)]; exact ⟨rfl, rfl⟩))
    (fun os started H enc _ => law_lift (s := Rows.fnExactGoodBobsSpec) started (by kernel_rfl) Try.func7 Try.underlying4 rfl rfl (by kernel_rfl) (fun ds hl => by match ds, hl with | [d1, d2, d3], _ => exact ⟨rfl, rfl, rfl⟩)
      (ChangeSpec.witness6 (enc := enc) (C := Try.checked) false ⟨#[], #[.agg #[.string ⟨#[]⟩, .int .i64 0, .slice none 0 0], .agg #[.string ⟨#[]⟩, .string ⟨#[]⟩], .slice none 0 0], []⟩ 8 (by kernel_rfl) (by kernel_rfl) (by kernel_rfl) (by kernel_rfl))
      (fun W base args ds p hval hA _hsz => by
        have hA := hA
        rw [show Try.f7.params.toList = _ from rfl] at hA _hsz
        obtain ⟨v0, _, d0, _, p0, _, rfl, rfl, rfl, h0, hA⟩ := trodAll_cons hA; obtain ⟨v1, _, d1, _, p1, _, rfl, rfl, rfl, h1, hA⟩ := trodAll_cons hA; obtain ⟨v2, _, d2, _, p2, _, rfl, rfl, rfl, h2, hA⟩ := trodAll_cons hA; obtain ⟨rfl, rfl, rfl⟩ := trodAll_nil hA; have o0 := hval 0 _ v0 rfl rfl; have o1 := hval 1 _ v1 rfl rfl; have o2 := hval 2 _ v2 rfl rfl
        obtain ⟨nm, st, x, l, rfl, hsq, g1, g2, g3⟩ := open_M o0 h0
        obtain ⟨b, s, rfl, hb, hs⟩ := open_Q o1 h1
        obtain ⟨bs, hsq', hg', hl'⟩ := open_sq Try.underlying22 (by kernel_rfl) fS_len (opens_str Try.underlying9) o2 h2
        exact lFnExactGoodBobs_ok nm st x v2 l b s bs g1 g2 g3 ⟨hb, hs⟩ hl' hg' W hsq hsq'
))
end Go.Proofs.Ytnhealghpfjdcaa
