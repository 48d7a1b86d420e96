/-
  Slices of slices.
  Conditions: none.
-/
import Derived.Test.YtfklonhjgkahdaaKA25
set_option linter.unusedSimpArgs false
set_option linter.unusedVariables false
set_option linter.defProp false
namespace Go.Proofs.Ytfklonhjgkahdaa
open Go Go.RowKit
/-- A slice as a value. -/
structure SV where
  a : Option Addr
  n : Nat
  c : Nat
def SV.v (s : SV) : Value := .slice s.a s.n s.c
def SV.nil : SV := ⟨none, 0, 0⟩
def fSV (s : SV) : List Value := [s.v]
theorem fSV_len (a : SV) : (fSV a).length = 1 := rfl
theorem fSV_one : ∀ a, ∀ u ∈ fSV a, u.oneCell' = true := fun a u h => by simp only [fSV, List.mem_singleton] at h; subst h; rfl
theorem fSV_get (s : SV) (u : Value) : (fSV s).getD 0 u = s.v := rfl
theorem SV.cells (s : SV) : s.v.cells.toList = [s.v] := rfl
theorem SV.csize (s : SV) : s.v.cells.size = 1 := rfl
theorem SV.oneC (s : SV) : Go.Proofs.Ytfklonhjgkahdaa.oneC s.v = True := eq_true rfl
theorem Sq.sv {α : Type} {f : α → List Value} {z : Nat} {w : World} {v : Value} {l : List α} (h : Sq f z w v l) : ∃ s : SV, v = s.v := by
  rcases h.2.2 with ⟨rfl, _⟩ | ⟨a, c, rfl, _⟩
  · exact ⟨SV.nil, rfl⟩
  · exact ⟨⟨_, _, _⟩, rfl⟩
/-- A slice of slices, as it is read. -/
def Sq2 {α : Type} (f : α → List Value) (w : World) (o : Value) (ls : List (List α)) : Prop :=
  ∃ vs : List SV, Sq fSV 1 w o vs ∧ vs.length = ls.length ∧ ∀ i < ls.length, Sq f 1 w (vs.getD i SV.nil).v (ls.getD i [])
/-- A slice of slices of its own, in blocks of which Q holds. -/
def NestP {α : Type} (f : α → List Value) (E1 E2 : TypeId) (Q : Nat → Prop) (w : World) (o : Value) (ls : List (List α)) : Prop :=
  ∃ vs : List SV, Own fSV 1 E2 0 w o vs ∧ (∀ c, o.ownBlock = some c → Q c) ∧ vs.length = ls.length ∧
    ∀ i < ls.length, Own f 1 E1 0 w (vs.getD i SV.nil).v (ls.getD i []) ∧ ∀ c, (vs.getD i SV.nil).v.ownBlock = some c → Q c ∧ o.ownBlock ≠ some c
section
variable {α : Type} {f : α → List Value} {E1 E2 : TypeId} {Q Q' : Nat → Prop} {w w' : World} {o : Value} {ls : List (List α)}
theorem Sq2.ext (h : Sq2 f w o ls) (hx : Ext w w') : Sq2 f w' o ls := by
  obtain ⟨vs, h1, h2, h3⟩ := h
  exact ⟨vs, h1.ext hx, h2, fun i hi => (h3 i hi).ext hx⟩
theorem NestP.sq (h : NestP f E1 E2 Q w o ls) : Sq2 f w o ls := by
  obtain ⟨vs, h1, _, h2, h3⟩ := h
  exact ⟨vs, h1.sq, h2, fun i hi => (h3 i hi).1.sq⟩
theorem NestP.ext (h : NestP f E1 E2 Q w o ls) (hx : Ext w w') : NestP f E1 E2 Q w' o ls := by
  obtain ⟨vs, h1, h2, h3, h4⟩ := h
  exact ⟨vs, h1.ext hx, h2, h3, fun i hi => ⟨(h4 i hi).1.ext hx, (h4 i hi).2⟩⟩
theorem NestP.mono (h : NestP f E1 E2 Q w o ls) (hQ : ∀ c, Q c → Q' c) : NestP f E1 E2 Q' w o ls := by
  obtain ⟨vs, h1, h2, h3, h4⟩ := h
  exact ⟨vs, h1, fun c hc => hQ c (h2 c hc), h3, fun i hi => ⟨(h4 i hi).1, fun c hc => ⟨hQ c ((h4 i hi).2 c hc).1, ((h4 i hi).2 c hc).2⟩⟩⟩
theorem NestP.keep {r : Option Nat} (h : NestP f E1 E2 Q w o ls) (hg : w.grownBy w' r) (hr : ∀ c, r = some c → ¬ Q c) : NestP f E1 E2 Q w' o ls := by
  obtain ⟨vs, h1, h2, h3, h4⟩ := h
  exact ⟨vs, h1.off hg fun c hc e => hr c hc (h2 c e), h2, h3, fun i hi => ⟨(h4 i hi).1.off hg fun c hc e => hr c hc ((h4 i hi).2 c e).1, (h4 i hi).2⟩⟩
theorem NestP.to {ls' : List (List α)} (h : NestP f E1 E2 Q w o ls) (e : ls = ls') : NestP f E1 E2 Q w o ls' := e ▸ h
theorem NestP.nil : NestP f E1 E2 Q w (.slice none 0 0) ([] : List (List α)) := ⟨[], Own.nil fSV_len, (fun c h => by cases h), rfl, fun i hi => by simp at hi⟩
theorem NestP.empty {b : Nat} (hb : Blk w b [] E2) (hQ : Q b) : NestP f E1 E2 Q w (.slice (some ⟨b, 0, none⟩) 0 0) ([] : List (List α)) :=
  ⟨[], Own.empty fSV_len hb (Nat.zero_le _), (fun c h => by
    simp only [Value.ownBlock, Option.some.injEq] at h
    rw [← h]; exact hQ), rfl, fun i hi => by simp at hi⟩
theorem Own.zero {z E B : Nat} {v : Value} {l : List α} (h : Own f z E B w v l) : Own f z E 0 w v l := by
  refine ⟨h.1, ?_⟩
  rcases h.2 with h0 | ⟨g, cap, cur, e, hB, hr⟩
  · exact .inl h0
  · exact .inr ⟨g, cap, cur, e, Nat.zero_le _, hr⟩
/-- One more slice behind. -/
theorem m_push {P : Program} {m : Option World} {ps : List Nat} {k : KT} {r : XT} {d : Option Nat} {e : EL} {T bytes : Nat} {zero : List Value} {ty : TypeId} {x : Value} {s : SV} {l : List α}
    (hn : NestP f E1 E2 Q w o ls) (hx : Sq fSV 1 w x [s]) (hi : Own f 1 E1 0 w s.v l) (hs : ∀ c, s.v.ownBlock = some c → Q c ∧ o.ownBlock ≠ some c) (hQ : ∀ c, w.heap.size ≤ c → Q c) (hl : ls.length ≤ 900000000) (hz : zero.length = 1) (hb : bytes ≤ 100000)
    (h : ∀ v' w', NestP f E1 E2 Q w' v' (ls ++ [l]) → w.grownBy w' o.ownBlock → (∀ b, v'.ownBlock = some b → o.ownBlock = some b ∨ w.heap.size ≤ b) → ∀ q, ops P m ps k r (setO ⟨e, q⟩ d v') w') : appL P m ps k r d e w T E2 1 bytes zero ty o x := by
  obtain ⟨vs, h1, h2, h3, h4⟩ := hn
  refine m_app2 h1 hx fSV_one ⟨hz, by omega⟩ (by simp only [List.length_singleton]; omega) hb (Nat.zero_le _) ?_
  intro v' w' ho hg hb'
  refine h v' w' ⟨vs ++ [s], ho, fun c hc => ?_, by simp [h3], fun i hi' => ?_⟩ hg hb'
  · rcases hb' c hc with hh | hh
    · exact h2 c hh
    · exact hQ c hh
  · have key : ∀ (u : SV) (l' : List α), Own f 1 E1 0 w u.v l' → (∀ c, u.v.ownBlock = some c → Q c ∧ o.ownBlock ≠ some c) → Own f 1 E1 0 w' u.v l' ∧ ∀ c, u.v.ownBlock = some c → Q c ∧ v'.ownBlock ≠ some c := fun u l' hu hq => by
      refine ⟨hu.off hg fun c hc e => (hq c e).2 hc, fun c hc => ⟨(hq c hc).1, fun e => ?_⟩⟩
      rcases hb' c e with hh | hh
      · exact (hq c hc).2 hh
      · have := hu.lt c hc; omega
    simp only [List.length_append, List.length_singleton] at hi'
    by_cases hlt : i < ls.length
    · have e1 : (vs ++ [s]).getD i SV.nil = vs.getD i SV.nil := by simp only [List.getD_eq_getElem?_getD, List.getElem?_append_left (h3 ▸ hlt)]
      have e2 : (ls ++ [l]).getD i [] = ls.getD i [] := by simp only [List.getD_eq_getElem?_getD, List.getElem?_append_left hlt]
      rw [e1, e2]
      exact key _ _ (h4 i hlt).1 (h4 i hlt).2
    · obtain rfl : i = ls.length := by omega
      have e1 : (vs ++ [s]).getD ls.length SV.nil = s := by rw [← h3]; simp
      have e2 : (ls ++ [l]).getD ls.length [] = l := by simp
      rw [e1, e2]
      exact key _ _ hi hs
/-- The slices of another one behind: its slices are then held by both. -/
theorem m_extend {P : Program} {m : Option World} {ps : List Nat} {k : KT} {r : XT} {d : Option Nat} {e : EL} {T bytes : Nat} {zero : List Value} {ty : TypeId} {x : Value} {ls' : List (List α)}
    (hn : NestP f E1 E2 Q w o ls) (hx : NestP f E1 E2 (fun c => Q c ∧ o.ownBlock ≠ some c) w x ls') (hQ : ∀ c, w.heap.size ≤ c → Q c) (hl : ls.length + ls'.length ≤ 900000000) (hz : zero.length = 1) (hb : bytes ≤ 100000)
    (h : ∀ v' w', NestP f E1 E2 Q w' v' (ls ++ ls') → w.grownBy w' o.ownBlock → (∀ b, v'.ownBlock = some b → o.ownBlock = some b ∨ w.heap.size ≤ b) → ∀ q, ops P m ps k r (setO ⟨e, q⟩ d v') w') : appL P m ps k r d e w T E2 1 bytes zero ty o x := by
  obtain ⟨vs, h1, h2, h3, h4⟩ := hn
  obtain ⟨us, g1, g2, g3, g4⟩ := hx
  refine m_app2 h1 g1.sq fSV_one ⟨hz, by omega⟩ (by omega) hb (Nat.zero_le _) ?_
  intro v' w' ho hg hb'
  refine h v' w' ⟨vs ++ us, ho, fun c hc => ?_, by simp [h3, g3], fun i hi' => ?_⟩ hg hb'
  · rcases hb' c hc with hh | hh
    · exact h2 c hh
    · exact hQ c hh
  · have key : ∀ (u : SV) (l' : List α), Own f 1 E1 0 w u.v l' → (∀ c, u.v.ownBlock = some c → Q c ∧ o.ownBlock ≠ some c) → Own f 1 E1 0 w' u.v l' ∧ ∀ c, u.v.ownBlock = some c → Q c ∧ v'.ownBlock ≠ some c := fun u l' hu hq => by
      refine ⟨hu.off hg fun c hc e => (hq c e).2 hc, fun c hc => ⟨(hq c hc).1, fun e => ?_⟩⟩
      rcases hb' c e with hh | hh
      · exact (hq c hc).2 hh
      · have := hu.lt c hc; omega
    simp only [List.length_append] at hi'
    by_cases hlt : i < ls.length
    · have e1 : (vs ++ us).getD i SV.nil = vs.getD i SV.nil := by simp only [List.getD_eq_getElem?_getD, List.getElem?_append_left (h3 ▸ hlt)]
      have e2 : (ls ++ ls').getD i [] = ls.getD i [] := by simp only [List.getD_eq_getElem?_getD, List.getElem?_append_left hlt]
      rw [e1, e2]
      exact key _ _ (h4 i hlt).1 (h4 i hlt).2
    · have e1 : (vs ++ us).getD i SV.nil = us.getD (i - ls.length) SV.nil := by simp only [List.getD_eq_getElem?_getD, List.getElem?_append_right (show vs.length ≤ i by omega), h3]
      have e2 : (ls ++ ls').getD i [] = ls'.getD (i - ls.length) [] := by simp only [List.getD_eq_getElem?_getD, List.getElem?_append_right (show ls.length ≤ i by omega)]
      rw [e1, e2]
      have := g4 (i - ls.length) (by omega)
      exact key _ _ this.1 fun c hc => (this.2 c hc).1
end
end Go.Proofs.Ytfklonhjgkahdaa
