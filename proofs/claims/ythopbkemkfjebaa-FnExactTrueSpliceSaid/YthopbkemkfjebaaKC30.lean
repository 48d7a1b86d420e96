/- The program's TrueSplice returns what the reference's returns, and leaves its arguments as they were.
   Conditions: none. -/
import Derived.Test.YthopbkemkfjebaaKA89
import Derived.Test.YthopbkemkfjebaaKVi
import Derived.Test.YthopbkemkfjebaaKVl
import Derived.Test.YthopbkemkfjebaaKVo
set_option linter.unusedSimpArgs false
set_option linter.unusedVariables false
set_option linter.defProp false
namespace Go.Proofs.Ythopbkemkfjebaa
open Go Go.RowKit Go.ChangeShapes Go.WideShapes Go.ChangeAt Go.ChangeMaps
theorem opens_MS {H : Type} {enc : TypeId × Value → H} {w : World} {base : Nat} {sp : Nat → Bool} {held : Bool} :
    Opens enc Try.prog w base sp held 116 fMS (fun m => m.nm.length ≤ 9223372036854775807 ∧ ∃ l : List (List UInt8), Sq fS 1 w m.sv.v l ∧ l.length ≤ 9223372036854775807 ∧ ∀ y ∈ l, y.length ≤ 9223372036854775807) := fun n cs x h => by
  obtain ⟨nm, st, x, l, e, hs, hn, hl, hg⟩ := opens_M h
  obtain ⟨s, rfl⟩ := hs.sv
  exact ⟨⟨nm, st, s⟩, e, hn, l, hs, hl, hg⟩
theorem pick_MS {w : World} : ∀ (vs : List MS), (∀ m ∈ vs, m.nm.length ≤ 9223372036854775807 ∧ ∃ l : List (List UInt8), Sq fS 1 w m.sv.v l ∧ l.length ≤ 9223372036854775807 ∧ ∀ y ∈ l, y.length ≤ 9223372036854775807) → ∃ css : List (List (List UInt8)), css.length = vs.length ∧ (∀ i < vs.length, Sq fS 1 w (vs.getD i MS.nil).sv.v (css.getD i [])) ∧ ∀ i < vs.length, (vs.getD i MS.nil).nm.length ≤ 9223372036854775807 ∧ (css.getD i []).length ≤ 9223372036854775807 ∧ ∀ c ∈ css.getD i [], c.length ≤ 9223372036854775807 := by
  intro vs
  induction vs with
  | nil => exact fun _ => ⟨[], rfl, fun i hi => by simp at hi, fun i hi => by simp at hi⟩
  | cons s vs ih =>
    intro h
    obtain ⟨h0, l, h1, h2, h3⟩ := h s List.mem_cons_self
    obtain ⟨css, g1, g2, g3⟩ := ih fun s hs => h s (List.mem_cons_of_mem _ hs)
    refine ⟨l :: css, by simp [g1], fun i hi => ?_, fun i hi => ?_⟩
    · cases i with
      | zero => exact h1
      | succ i => exact g2 i (by simpa using hi)
    · cases i with
      | zero => exact ⟨h0, h2, h3⟩
      | succ i => exact g3 i (by simpa using hi)
set_option maxHeartbeats 40000000 in
set_option maxRecDepth 100000 in
theorem FnExactTrueSplice_holds : Rows.FnExactTrueSpliceSaid :=
  OpenClaim.holds_of_wide 6 Try.f6 rfl rfl rfl rfl rfl rfl rfl ⟨rfl, rfl, rfl, rfl, rfl⟩ rfl rfl rfl rfl rfl (by kernel_rfl) Try.func6 (by unfold joinedFacts; simp only [Bool.and_eq_true]; (repeat' apply And.intro) <;> decide +kernel)
    (of_decide_eq_true (by kernel_rfl)) (by unfold Func.isWrapper; first | (rw [if_pos (by decide +kernel)]; kernel_rfl) | (rw [if_neg (by decide +kernel)]; exact ⟨rfl, rfl⟩))
    (fun os started H enc _ => law_lift (s := Rows.fnExactTrueSpliceSpec) started (by kernel_rfl) Try.func6 Try.underlying4 rfl rfl (by kernel_rfl) (fun ds hl => by match ds, hl with | [d1, d2, d3], _ => exact ⟨rfl, rfl, rfl⟩)
      (ChangeSpec.witness6 (enc := enc) (C := Try.checked) false ⟨#[], #[.slice none 0 0, .agg #[.string ⟨#[]⟩, .string ⟨#[]⟩], .string ⟨#[]⟩], []⟩ 8 (by kernel_rfl) (by kernel_rfl) (by kernel_rfl) (by kernel_rfl))
      (fun W base args ds p hval hA _hsz => by
        have hA := hA
        rw [show Try.f6.params.toList = _ from rfl] at hA _hsz
        obtain ⟨v0, _, d0, _, p0, _, rfl, rfl, rfl, h0, hA⟩ := trodAll_cons hA; obtain ⟨v1, _, d1, _, p1, _, rfl, rfl, rfl, h1, hA⟩ := trodAll_cons hA; obtain ⟨v2, _, d2, _, p2, _, rfl, rfl, rfl, h2, hA⟩ := trodAll_cons hA; obtain ⟨rfl, rfl, rfl⟩ := trodAll_nil hA; have o0 := hval 0 _ v0 rfl rfl; have o1 := hval 1 _ v1 rfl rfl; have o2 := hval 2 _ v2 rfl rfl
        obtain ⟨ms, hsq', hg', hl'⟩ := open_sq Try.underlying54 (by kernel_rfl) fMS_len opens_MS o0 h0
        obtain ⟨css, k1, k2, k3⟩ := pick_MS ms hg'
        obtain ⟨b, s, rfl, hb, hs⟩ := open_Q o1 h1
        obtain ⟨c, rfl, rfl, rfl, hc⟩ := open_string Try.underlying9 o2 h2
        exact lFnExactTrueSplice_ok v0 ms css b s c.data.toList ⟨hl', k3⟩ ⟨hb, hs⟩ hc W ⟨hsq', k1, k2⟩
))
end Go.Proofs.Ythopbkemkfjebaa
