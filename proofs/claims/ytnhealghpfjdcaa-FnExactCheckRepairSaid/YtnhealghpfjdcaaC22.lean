/- The program's CheckRepair returns what the reference's returns, and leaves its arguments as they were.
   Conditions: none. -/
import Derived.Test.YtnhealghpfjdcaaA65
import Derived.Test.YtnhealghpfjdcaaVo
import Derived.Test.YtnhealghpfjdcaaVl
import Derived.Test.YtnhealghpfjdcaaVi
set_option linter.unusedSimpArgs false
set_option linter.unusedVariables false
set_option linter.defProp false
namespace Go.Proofs.Ytnhealghpfjdcaa
open Go Go.RowKit Go.ChangeShapes Go.WideShapes Go.ChangeAt Go.ChangeMaps
theorem opens_SS {H : Type} {enc : TypeId × Value → H} {P : Program} {w : World} {base : Nat} {sp : Nat → Bool} {held : Bool} {t e : TypeId} (ht : P.underlying t = some (.slice e)) (hc : P.cellsOf e = 1) (he : P.underlying e = some .string) :
    Opens enc P w base sp held t fSV (fun s => ∃ l : List Bs, Sq fS 1 w s.v l ∧ l.length ≤ 9223372036854775807 ∧ ∀ y ∈ l, y.length ≤ 9223372036854775807) := fun n cs x h => by
  obtain ⟨v, l, e, hs, hg, hl⟩ := opens_slice ht hc fS_len (opens_str he) h
  obtain ⟨s, rfl⟩ := hs.sv
  exact ⟨s, e, l, hs, hl, hg⟩
theorem pick_SS {w : World} : ∀ (vs : List SV), (∀ s ∈ vs, ∃ l : List Bs, Sq fS 1 w s.v l ∧ l.length ≤ 9223372036854775807 ∧ ∀ y ∈ l, y.length ≤ 9223372036854775807) → ∃ ls : List (List Bs), vs.length = ls.length ∧ (∀ i < ls.length, Sq fS 1 w (vs.getD i SV.nil).v (ls.getD i [])) ∧ ∀ x ∈ ls, x.length ≤ 9223372036854775807 ∧ ∀ y ∈ x, y.length ≤ 9223372036854775807 := by
  intro vs
  induction vs with
  | nil => exact fun _ => ⟨[], rfl, fun i hi => by simp at hi, by simp⟩
  | cons s vs ih =>
    intro h
    obtain ⟨l, h1, h2, h3⟩ := h s List.mem_cons_self
    obtain ⟨ls, g1, g2, g3⟩ := ih fun s hs => h s (List.mem_cons_of_mem _ hs)
    refine ⟨l :: ls, by simp [g1], fun i hi => ?_, fun x hx => ?_⟩
    · cases i with
      | zero => exact h1
      | succ i => exact g2 i (by simpa using hi)
    · rcases List.mem_cons.1 hx with e | e
      · rw [e]; exact ⟨h2, h3⟩
      · exact g3 x e
set_option maxHeartbeats 40000000 in
set_option maxRecDepth 100000 in
theorem FnExactCheckRepair_holds : Rows.FnExactCheckRepairSaid :=
  OpenClaim.holds_of_wide 8 Try.f8 rfl rfl rfl rfl rfl rfl rfl ⟨rfl, rfl, rfl, rfl, rfl⟩ rfl rfl rfl rfl rfl (by kernel_rfl) Try.func8 (by unfold joinedFacts; simp only [Bool.and_eq_true]; (repeat' apply And.intro) <;> decide +kernel)
    (of_decide_eq_true (by kernel_rfl)) (by unfold Func.isWrapper; first | (rw [if_pos (by decide +kernel)]; kernel_rfl) | (rw [if_neg (by decide +kernel)]; exact ⟨rfl, rfl⟩))
    (fun os started H enc _ => law_lift (s := Rows.fnExactCheckRepairSpec) started (by kernel_rfl) Try.func8 Try.underlying4 rfl rfl (by kernel_rfl) (fun ds hl => by match ds, hl with | [d1, d2, d3, d4, d5, d6], _ => exact ⟨rfl, rfl, rfl⟩)
      (ChangeSpec.witness6 (enc := enc) (C := Try.checked) false ⟨#[], #[.agg #[.string ⟨#[]⟩, .int .i64 0, .slice none 0 0], .agg #[.string ⟨#[]⟩, .string ⟨#[]⟩], .string ⟨#[]⟩, .string ⟨#[]⟩, .string ⟨#[]⟩, .slice none 0 0], []⟩ 8 (by kernel_rfl) (by kernel_rfl) (by kernel_rfl) (by kernel_rfl))
      (fun W base args ds p hval hA _hsz => by
        have hA := hA
        rw [show Try.f8.params.toList = _ from rfl] at hA _hsz
        obtain ⟨v0, _, d0, _, p0, _, rfl, rfl, rfl, h0, hA⟩ := trodAll_cons hA; obtain ⟨v1, _, d1, _, p1, _, rfl, rfl, rfl, h1, hA⟩ := trodAll_cons hA; obtain ⟨v2, _, d2, _, p2, _, rfl, rfl, rfl, h2, hA⟩ := trodAll_cons hA; obtain ⟨v3, _, d3, _, p3, _, rfl, rfl, rfl, h3, hA⟩ := trodAll_cons hA; obtain ⟨v4, _, d4, _, p4, _, rfl, rfl, rfl, h4, hA⟩ := trodAll_cons hA; obtain ⟨v5, _, d5, _, p5, _, rfl, rfl, rfl, h5, hA⟩ := trodAll_cons hA; obtain ⟨rfl, rfl, rfl⟩ := trodAll_nil hA; have o0 := hval 0 _ v0 rfl rfl; have o1 := hval 1 _ v1 rfl rfl; have o2 := hval 2 _ v2 rfl rfl; have o3 := hval 3 _ v3 rfl rfl; have o4 := hval 4 _ v4 rfl rfl; have o5 := hval 5 _ v5 rfl rfl
        obtain ⟨nm, st, x, l, rfl, hsq, g1, g2, g3⟩ := open_M o0 h0
        obtain ⟨b, s, rfl, hb, hs⟩ := open_Q o1 h1
        obtain ⟨c, rfl, rfl, rfl, hc⟩ := open_string Try.underlying9 o2 h2
        obtain ⟨e, rfl, rfl, rfl, he⟩ := open_string Try.underlying9 o3 h3
        obtain ⟨e4, rfl, rfl, rfl, he4⟩ := open_string Try.underlying9 o4 h4
        obtain ⟨vs, hsq', hg', hl'⟩ := open_sq Try.underlying44 (by kernel_rfl) fSV_len (opens_SS Try.underlying22 (by kernel_rfl) Try.underlying9) o5 h5
        obtain ⟨ls, k1, k2, k3⟩ := pick_SS vs hg'
        exact lFnExactCheckRepair_ok nm st x v5 l b s c.data.toList e.data.toList e4.data.toList ls g1 g2 g3 ⟨hb, hs⟩ (k1 ▸ hl') k3 W hsq ⟨vs, hsq', k1, k2⟩
))
end Go.Proofs.Ytnhealghpfjdcaa
