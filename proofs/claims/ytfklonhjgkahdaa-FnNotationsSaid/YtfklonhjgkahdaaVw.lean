/-
  Slices and walks that stay apart.
  Conditions: none.
-/
import Derived.Test.YtfklonhjgkahdaaVm
set_option linter.unusedSimpArgs false
set_option linter.unusedVariables false
set_option linter.defProp false
namespace Go.Proofs.Ytfklonhjgkahdaa
open Go Go.RowKit
theorem Itr.lt {w : World} {b p : Nat} {l : List UInt8} (h : Itr w b l p) : b < w.heap.size := (Array.getElem?_eq_some_iff.1 h).1
theorem Itr.ext {w w' : World} {b p : Nat} {l : List UInt8} (h : Itr w b l p) (hx : Ext w w') : Itr w' b l p := by
  have hl := h.lt
  unfold Itr at h ⊢; rw [hx.block hl, h]
theorem Itr.grown {w w' : World} {b p : Nat} {l : List UInt8} {row : Option Nat} (h : Itr w b l p) (hg : w.grownBy w' row) (hne : row ≠ some b) : Itr w' b l p := by
  have h' := h
  unfold Itr at h ⊢; rw [hg.block b h'.lt (fun e => hne e.symm), h]
theorem Itr.drew {w : World} {b p : Nat} {l : List UInt8} : Itr w.drew b l p = Itr w b l p := rfl
/-- The slice is not in block c. -/
def Away (v : Value) (c : Nat) : Prop := v.ownBlock ≠ some c
theorem Away.nil (c : Nat) : Away (.slice none 0 0) c := fun h => by cases h
theorem Away.next {v v' : Value} {c : Nat} {w : World} (h : Away v c) (hc : c < w.heap.size) (hv : ∀ b, v'.ownBlock = some b → v.ownBlock = some b ∨ w.heap.size ≤ b) : Away v' c := fun e => by
  rcases hv c e with h' | h'
  · exact h h'
  · omega
section
variable {α : Type} {f : α → List Value} {z : Nat} {E : TypeId} {B : Nat} {w w' : World} {v : Value} {l : List α}
theorem Own.away (h : Own f z E B w v l) {c : Nat} (hc : w.heap.size ≤ c) : Away v c := fun e => by have := h.lt c e; omega
theorem Own.away' (h : Own f z E B w v l) {c : Nat} (hc : c < B) : Away v c := fun e => by have := (h.bound c e).1; omega
theorem Own.upd {c : Nat} (h : Own f z E B w v l) (hu : Upd w w' c) (ha : Away v c) : Own f z E B w' v l := h.same fun g hg => hu.grown.block g (h.lt g hg) fun e => ha (by rw [hg, Option.some.inj e])
theorem Own.off {r : Option Nat} (h : Own f z E B w v l) (hg : w.grownBy w' r) (hr : ∀ c, r = some c → Away v c) : Own f z E B w' v l := h.same fun g hv => hg.block g (h.lt g hv) fun e => hr g e.symm hv
/-- An own slice's head, as it is read. -/
theorem Sq.headS (h : Sq f z w v l) (k : IntKind) (a : Nat) (ha : a ≤ l.length) : sslD v none (some (.int k a)) = True ∧ Sq f z w (sslV z v none (some (.int k a))) (l.take a) := by
  have hfl := flat_len h.1 (l.take a)
  rcases h.2.2 with ⟨rfl, h0⟩ | ⟨ad, c, rfl, hc, hx⟩
  · have hl : l = [] := List.length_eq_zero_iff.1 h0
    subst hl
    obtain rfl : a = 0 := by simpa using ha
    exact ⟨by simp [sslD, isI, asI], h.1, by simp, .inl ⟨by simp [sslV, cutA, asI], rfl⟩⟩
  · refine ⟨by simp only [sslD, isI, asI]; exact eq_true ⟨trivial, by omega, by omega⟩, h.1, hfl, .inr ⟨ad, c, ?_, by rw [List.length_take]; omega, fun j u hj => hx j u ?_⟩⟩
    · simp only [sslV, cutA, asI, Int.toNat_natCast, Option.map_some, Nat.zero_mul, Addr.add_zero', ite_self, List.length_take, Nat.min_eq_left ha]
    · have e : l.flatMap f = (l.take a).flatMap f ++ (l.drop a).flatMap f := by rw [← List.flatMap_append, List.take_append_drop]
      rw [e, List.getElem?_append_left (List.getElem?_eq_some_iff.1 hj).1]
      exact hj
end
end Go.Proofs.Ytfklonhjgkahdaa
