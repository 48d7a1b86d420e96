/-
  Slices of slices.
  Conditions: none.
-/
import Derived.Test.YthopbkemkfjebaaKVw
set_option linter.unusedSimpArgs false
set_option linter.unusedVariables false
set_option linter.defProp false
namespace Go.Proofs.Ythopbkemkfjebaa
open Go Go.RowKit
/-- A slice as a value. -/
structure SV where
  a : Option Addr
  n : Nat
  c : Nat
def SV.v (s : SV) : Value := .slice s.a s.n s.c
def SV.nil : SV := ⟨none, 0, 0⟩
def fSV (s : SV) : List Value := [s.v]
theorem fSV_len (a : SV) : (fSV a).length = 1 := rfl
theorem fSV_one : ∀ a, ∀ u ∈ fSV a, u.oneCell' = true := fun a u h => by simp only [fSV, List.mem_singleton] at h; subst h; rfl
theorem SV.cells (s : SV) : s.v.cells.toList = [s.v] := rfl
theorem SV.oneC (s : SV) : Go.Proofs.Ythopbkemkfjebaa.oneC s.v = True := eq_true rfl
theorem Sq.sv {α : Type} {f : α → List Value} {z : Nat} {w : World} {v : Value} {l : List α} (h : Sq f z w v l) : ∃ s : SV, v = s.v := by
  rcases h.2.2 with ⟨rfl, _⟩ | ⟨a, c, rfl, _⟩
  · exact ⟨SV.nil, rfl⟩
  · exact ⟨⟨_, _, _⟩, rfl⟩
/-- A slice of slices, as it is read. -/
def Sq2 {α : Type} (f : α → List Value) (w : World) (o : Value) (ls : List (List α)) : Prop :=
  ∃ vs : List SV, Sq fSV 1 w o vs ∧ vs.length = ls.length ∧ ∀ i < ls.length, Sq f 1 w (vs.getD i SV.nil).v (ls.getD i [])
/-- A slice of slices of its own, in blocks of which Q holds. -/
def NestP {α : Type} (f : α → List Value) (E1 E2 : TypeId) (Q : Nat → Prop) (w : World) (o : Value) (ls : List (List α)) : Prop :=
  ∃ vs : List SV, Own fSV 1 E2 0 w o vs ∧ (∀ c, o.ownBlock = some c → Q c) ∧ vs.length = ls.length ∧
    ∀ i < ls.length, Own f 1 E1 0 w (vs.getD i SV.nil).v (ls.getD i []) ∧ ∀ c, (vs.getD i SV.nil).v.ownBlock = some c → Q c ∧ o.ownBlock ≠ some c
section
variable {α : Type} {f : α → List Value} {E1 E2 : TypeId} {Q Q' : Nat → Prop} {w w' : World} {o : Value} {ls : List (List α)}
theorem Sq2.ext (h : Sq2 f w o ls) (hx : Ext w w') : Sq2 f w' o ls := by
  obtain ⟨vs, h1, h2, h3⟩ := h
  exact ⟨vs, h1.ext hx, h2, fun i hi => (h3 i hi).ext hx⟩
theorem NestP.sq (h : NestP f E1 E2 Q w o ls) : Sq2 f w o ls := by
  obtain ⟨vs, h1, _, h2, h3⟩ := h
  exact ⟨vs, h1.sq, h2, fun i hi => (h3 i hi).1.sq⟩
theorem NestP.ext (h : NestP f E1 E2 Q w o ls) (hx : Ext w w') : NestP f E1 E2 Q w' o ls := by
  obtain ⟨vs, h1, h2, h3, h4⟩ := h
  exact ⟨vs, h1.ext hx, h2, h3, fun i hi => ⟨(h4 i hi).1.ext hx, (h4 i hi).2⟩⟩
theorem NestP.mono (h : NestP f E1 E2 Q w o ls) (hQ : ∀ c, Q c → Q' c) : NestP f E1 E2 Q' w o ls := by
  obtain ⟨vs, h1, h2, h3, h4⟩ := h
  exact ⟨vs, h1, fun c hc => hQ c (h2 c hc), h3, fun i hi => ⟨(h4 i hi).1, fun c hc => ⟨hQ c ((h4 i hi).2 c hc).1, ((h4 i hi).2 c hc).2⟩⟩⟩
theorem NestP.keep {r : Option Nat} (h : NestP f E1 E2 Q w o ls) (hg : w.grownBy w' r) (hr : ∀ c, r = some c → ¬ Q c) : NestP f E1 E2 Q w' o ls := by
  obtain ⟨vs, h1, h2, h3, h4⟩ := h
  exact ⟨vs, h1.off hg fun c hc e => hr c hc (h2 c e), h2, h3, fun i hi => ⟨(h4 i hi).1.off hg fun c hc e => hr c hc ((h4 i hi).2 c e).1, (h4 i hi).2⟩⟩
theorem NestP.to {ls' : List (List α)} (h : NestP f E1 E2 Q w o ls) (e : ls = ls') : NestP f E1 E2 Q w o ls' := e ▸ h
theorem NestP.nil : NestP f E1 E2 Q w (.slice none 0 0) ([] : List (List α)) := ⟨[], Own.nil fSV_len, (fun c h => by cases h), rfl, fun i hi => by simp at hi⟩
theorem NestP.empty {b : Nat} (hb : Blk w b [] E2) (hQ : Q b) : NestP f E1 E2 Q w (.slice (some ⟨b, 0, none⟩) 0 0) ([] : List (List α)) :=
  ⟨[], Own.empty fSV_len hb (Nat.zero_le _), (fun c h => by
    simp only [Value.ownBlock, Option.some.injEq] at h
    rw [← h]; exact hQ), rfl, fun i hi => by simp at hi⟩
theorem Own.zero {z E B : Nat} {v : Value} {l : List α} (h : Own f z E B w v l) : Own f z E 0 w v l := by
  refine ⟨h.1, ?_⟩
  rcases h.2 with h0 | ⟨g, cap, cur, e, hB, hr⟩
  · exact .inl h0
  · exact .inr ⟨g, cap, cur, e, Nat.zero_le _, hr⟩
end
end Go.Proofs.Ythopbkemkfjebaa
