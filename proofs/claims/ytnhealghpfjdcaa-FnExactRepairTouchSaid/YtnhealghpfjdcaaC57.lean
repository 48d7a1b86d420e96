/- The program's RepairTouch returns what the reference's returns, and leaves its arguments as they were.
   Conditions: none. -/
import Derived.Test.YtnhealghpfjdcaaA62
import Derived.Test.YtnhealghpfjdcaaVo
import Derived.Test.YtnhealghpfjdcaaVl
set_option linter.unusedSimpArgs false
set_option linter.unusedVariables false
set_option linter.defProp false
namespace Go.Proofs.Ytnhealghpfjdcaa
open Go Go.RowKit Go.ChangeShapes Go.WideShapes Go.ChangeAt Go.ChangeMaps
set_option maxHeartbeats 40000000 in
set_option maxRecDepth 100000 in
theorem FnExactRepairTouch_holds : Rows.FnExactRepairTouchSaid :=
  OpenClaim.holds_of_wide 5 Try.f5 rfl rfl rfl rfl rfl rfl rfl ⟨rfl, rfl, rfl, rfl, rfl⟩ rfl rfl rfl rfl rfl (by kernel_rfl) Try.func5 (by unfold joinedFacts; simp only [Bool.and_eq_true]; (repeat' apply And.intro) <;> decide +kernel)
    (of_decide_eq_true (by kernel_rfl)) (by unfold Func.isWrapper; first | (rw [if_pos (by decide +kernel)]; kernel_rfl) | (rw [if_neg (by decide +kernel)]; exact ⟨rfl, rfl⟩))
    (fun os started H enc _ => law_lift (s := Rows.fnExactRepairTouchSpec) started (by kernel_rfl) Try.func5 Try.underlying4 rfl rfl (by kernel_rfl) (fun ds hl => by match ds, hl with | [d1, d2, d3, d4], _ => exact ⟨rfl, rfl, rfl⟩)
      (ChangeSpec.witness6 (enc := enc) (C := Try.checked) false ⟨#[], #[.agg #[.string ⟨#[]⟩, .int .i64 0, .slice none 0 0], .agg #[.string ⟨#[]⟩, .string ⟨#[]⟩], .string ⟨#[]⟩, .string ⟨#[]⟩], []⟩ 8 (by kernel_rfl) (by kernel_rfl) (by kernel_rfl) (by kernel_rfl))
      (fun W base args ds p hval hA _hsz => by
        have hA := hA
        rw [show Try.f5.params.toList = _ from rfl] at hA _hsz
        obtain ⟨v0, _, d0, _, p0, _, rfl, rfl, rfl, h0, hA⟩ := trodAll_cons hA; obtain ⟨v1, _, d1, _, p1, _, rfl, rfl, rfl, h1, hA⟩ := trodAll_cons hA; obtain ⟨v2, _, d2, _, p2, _, rfl, rfl, rfl, h2, hA⟩ := trodAll_cons hA; obtain ⟨v3, _, d3, _, p3, _, rfl, rfl, rfl, h3, hA⟩ := trodAll_cons hA; obtain ⟨rfl, rfl, rfl⟩ := trodAll_nil hA; have o0 := hval 0 _ v0 rfl rfl; have o1 := hval 1 _ v1 rfl rfl; have o2 := hval 2 _ v2 rfl rfl; have o3 := hval 3 _ v3 rfl rfl
        obtain ⟨nm, st, x, l, rfl, hsq, g1, g2, g3⟩ := open_M o0 h0
        obtain ⟨b, s, rfl, hb, hs⟩ := open_Q o1 h1
        obtain ⟨c, rfl, rfl, rfl, hc⟩ := open_string Try.underlying9 o2 h2
        obtain ⟨e, rfl, rfl, rfl, he⟩ := open_string Try.underlying9 o3 h3
        exact lFnExactRepairTouch_ok nm st x l b s c.data.toList e.data.toList g1 g2 g3 ⟨hb, hs⟩ W hsq
))
end Go.Proofs.Ytnhealghpfjdcaa
