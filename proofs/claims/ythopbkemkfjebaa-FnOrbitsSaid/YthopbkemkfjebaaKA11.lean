/-
  Methods: what a good one is, its lead's rows, its lead head.
  Conditions: none.
-/
import Derived.Test.YthopbkemkfjebaaKA10
set_option linter.unusedSimpArgs false
set_option linter.unusedVariables false
set_option linter.defProp false
namespace Go.Proofs.Ythopbkemkfjebaa
open Go Go.RowKit
def WordUp (l : List UInt8) (k : Nat) : Prop := ∀ i < k, 97 ≤ (l.getD i 0).toNat ∧ (l.getD i 0).toNat ≤ 122
instance (l : List UInt8) (k : Nat) : Decidable (WordUp l k) := by unfold WordUp; infer_instance
theorem WordUp.succ {l : List UInt8} {k : Nat} (h : WordUp l k) (h1 : 97 ≤ (l.getD k 0).toNat ∧ (l.getD k 0).toNat ≤ 122) : WordUp l (k + 1) := fun i hi => by
  by_cases he : i = k
  · subst he; exact h1
  · exact h i (by omega)
theorem Own.one {α : Type} {f : α → List Value} {z E B : Nat} {w : World} {a : α} {b : Nat} {cs : List Value} (hz : ∀ a, (f a).length = z) (hb : Blk w b cs E) (e : cs = f a) (hB : B ≤ b) : Own f z E B w (.slice (some ⟨b, 0, none⟩) 1 1) [a] :=
  ⟨hz, .inr ⟨b, 1, cs, rfl, hB, hb, Nat.le_refl _, by decide, by rw [e, hz, Nat.one_mul], by rw [e]; simp only [List.length_singleton, Nat.one_mul, List.flatMap_cons, List.flatMap_nil, List.append_nil]; rw [← hz a, List.take_length]⟩⟩
end Go.Proofs.Ythopbkemkfjebaa
