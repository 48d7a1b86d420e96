/-
  The orders of a region that draws: an operation that only reads may be taken first, if every operation that changes memory waits for it.
  Conditions: none (a law over any program).
-/
import Derived.OrdersHeld
import Derived.Laws.World
set_option linter.unusedSimpArgs false
set_option linter.unusedVariables false
set_option linter.defProp false
namespace Go.Proofs.YtnbnofmnbopknaaDoor
open Go

section
variable {P : Program} {ops : Array Oper} {Q : Exit → Act → World → Prop} {md : Region.Mode}

/-- Whatever order comes, and behind each operation S holds of the set that has come and of the world. -/
def wpL (P : Program) (md : Region.Mode) (ops : Array Oper) (Q : Exit → Act → World → Prop) (S : Array Bool → World → Prop) : Nat → Array Bool → Act → World → Prop
  | 0, L, a, w => Region.ready md ops L = [] ∧ Q .normal a w
  | n + 1, L, a, w =>
    (Region.ready md ops L = [] → Q .normal a w) ∧
    ∀ i ∈ Region.ready md ops L, wpOp P ops Q i (fun a' w' => S (L.setIfInBounds i true) w' ∧ wpL P md ops Q S n (L.setIfInBounds i true) a' w') a w

theorem wpAny_of_L {S : Array Bool → World → Prop} : ∀ (n : Nat) (L : Array Bool) (a : Act) (w : World), wpL P md ops Q S n L a w → wpAny P md ops Q n L a w
  | 0, _, _, _, h => h
  | n + 1, _, _, _, h => ⟨h.1, fun i hi => wpOp_mono (fun a' w' h' => wpAny_of_L n _ a' w' h'.2) (h.2 i hi)⟩

/-- What has come is closed: all that it waits for has come. -/
def Closed (md : Region.Mode) (ops : Array Oper) (L : Array Bool) : Prop :=
  ∀ j o, ops[j]? = some o → L.getD j true = true → ∀ e ∈ o.after, Region.binds md e = true → L.getD e.on false = true

theorem getD_size {L : Array Bool} {i : Nat} (h : L.getD i false = true) : i < L.size := by
  rcases Nat.lt_or_ge i L.size with h' | h'
  · exact h'
  · simp [Array.getElem?_eq_none h'] at h

theorem getD_set_iff {L : Array Bool} {i j : Nat} (d : Bool) (hi : i < L.size) : (L.setIfInBounds i true).getD j d = (if i = j then true else L.getD j d) := by
  by_cases h : i = j
  · subst h; simp [hi]
  · rw [getD_set_ne d h, if_neg h]

theorem ready_size {L : Array Bool} {i : Nat} (h : i ∈ Region.ready md ops L) : i < L.size := by
  have h0 := (mem_ready.1 h).1
  rcases Nat.lt_or_ge i L.size with h' | h'
  · exact h'
  · simp [Array.getElem?_eq_none h'] at h0

theorem Closed.step {L : Array Bool} {i : Nat} (hc : Closed md ops L) (hi : i ∈ Region.ready md ops L) : Closed md ops (L.setIfInBounds i true) := by
  intro j o ho hj e he hb
  have hs := ready_size hi
  by_cases hij : i = j
  · subst hij
    obtain ⟨_, o', ho', hall⟩ := mem_ready.1 hi
    rw [ho] at ho'
    cases ho'
    exact getD_set_true (hall e he hb)
  · rw [getD_set_ne true hij] at hj
    exact getD_set_true (hc j o ho hj e he hb)

/-- i is an ancestor of m: m waits for it, at one or more removes. -/
inductive Anc (md : Region.Mode) (ops : Array Oper) (i : Nat) : Nat → Prop
  | one {m : Nat} {o : Oper} {e : Edge} (ho : ops[m]? = some o) (he : e ∈ o.after) (hb : Region.binds md e = true) (h : e.on = i) : Anc md ops i m
  | more {m : Nat} {o : Oper} {e : Edge} (ho : ops[m]? = some o) (he : e ∈ o.after) (hb : Region.binds md e = true) (h : Anc md ops i e.on) : Anc md ops i m

theorem Anc.size {i m : Nat} (h : Anc md ops i m) : m < ops.size := by
  cases h with
  | one ho => exact (Array.getElem?_eq_some_iff.1 ho).1
  | more ho => exact (Array.getElem?_eq_some_iff.1 ho).1

theorem Anc.listed {i m : Nat} {L : Array Bool} (hc : Closed md ops L) (hm : Anc md ops i m) : L.getD m false = true → L.getD i false = true := by
  induction hm with
  | one ho he hb h =>
    intro hl
    have := hc _ _ ho (by
      have := getD_size hl
      simp [this] at hl ⊢
      exact hl) _ he hb
    rw [h] at this
    exact this
  | more ho he hb h ih =>
    intro hl
    exact ih (hc _ _ ho (by
      have := getD_size hl
      simp [this] at hl ⊢
      exact hl) _ he hb)

theorem Anc.ready {i m : Nat} {L : Array Bool} (hc : Closed md ops L) (hm : Anc md ops i m) (hr : m ∈ Region.ready md ops L) : L.getD i false = true := by
  obtain ⟨_, o, ho, hall⟩ := mem_ready.1 hr
  cases hm with
  | one ho' he hb h =>
    rw [ho] at ho'
    cases ho'
    have := hall _ he hb
    rw [h] at this
    exact this
  | more ho' he hb h =>
    rw [ho] at ho'
    cases ho'
    exact h.listed hc (hall _ he hb)

/-- An operation may be taken first: it may come now; it yields its value in each world that meets Si; S gives Si wherever it has not come; S does not look at it. -/
theorem wpL_first {S : Array Bool → World → Prop} {Si : World → Prop} {i : Nat} {oi : Oper} {v : Value} (hi : ops[i]? = some oi)
    (hsel : ∀ (j : Nat) (o : Oper) cs b, ops[j]? = some o → o.op ≠ .select cs b)
    (hQ : ∀ c a w, Q (.panic c) (a.put oi.dst v) w → Q (.panic c) a w)
    (hSi : ∀ L w, Closed md ops L → L.getD i false = false → S L w → Si w)
    (hSL : ∀ L w, S (L.setIfInBounds i true) w ↔ S L w) :
    ∀ (fuel : Nat) (L : Array Bool) (a : Act) (w : World), Closed md ops L →
      (∀ j oj, ops[j]? = some oj → j ≠ i → L.getD j true = false → (∀ e ∈ oj.after, Region.binds md e = true → e.on ≠ i) → oi.apart ops oj = true) →
      i ∈ Region.ready md ops L → YieldsIf P ops Si oi v a → S L w →
      wpL P md ops Q S fuel (L.setIfInBounds i true) (a.put oi.dst v) w → wpL P md ops Q S (fuel + 1) L a w := by
  intro fuel
  have unl : ∀ L : Array Bool, i ∈ Region.ready md ops L → L.getD i false = false := fun L hr => by
    have h0 := (mem_ready.1 hr).1
    have h1 := ready_size hr
    simp [h1] at h0 ⊢
    exact h0
  induction fuel with
  | zero =>
    intro L a w hc _ hr hy hS H
    refine ⟨fun h => (by rw [h] at hr; cases hr), fun j hj => ?_⟩
    by_cases hji : j = i
    · subst hji; exact hy.wpOp hi (hSi L w hc (unl L hr) hS) ⟨(hSL L w).2 hS, H⟩
    · have := ready_mono hj hji
      rw [H.1] at this
      cases this
  | succ fuel ih =>
    intro L a w hc hfree hr hy hS H
    refine ⟨fun h => (by rw [h] at hr; cases hr), fun j hj => ?_⟩
    by_cases hji : j = i
    · subst hji; exact hy.wpOp hi (hSi L w hc (unl L hr) hS) ⟨(hSL L w).2 hS, H⟩
    · have h1 := H.2 j (ready_mono hj hji)
      obtain ⟨hjun, oj, hoj, hall⟩ := mem_ready.1 hj
      have hnot : ∀ e ∈ oj.after, Region.binds md e = true → e.on ≠ i := fun e he hb heq => by
        have h1 := hall e he hb
        rw [heq, unl L hr] at h1
        cases h1
      have h2 := wpOp_putIf hoj (hfree j oj hoj hji hjun hnot) (fun cs b => hsel i oi cs b hi) (fun cs b => hsel j oj cs b hoj) hQ hy h1
      have hfree' : ∀ k ok, ops[k]? = some ok → k ≠ i → (L.setIfInBounds j true).getD k true = false →
          (∀ e ∈ ok.after, Region.binds md e = true → e.on ≠ i) → oi.apart ops ok = true := fun k ok hk hki hun hno => by
        refine hfree k ok hk hki ?_ hno
        by_cases hjk : j = k
        · subst hjk; exact hjun
        · rw [getD_set_ne true hjk] at hun; exact hun
      refine wpOp_mono (fun a' w' h3 => ?_) h2
      have e := Array.setIfInBounds_comm (xs := L) true true hji
      rw [← e] at h3
      have h5 := (hSL _ w').1 h3.2.1
      exact ⟨h5, ih (L.setIfInBounds j true) a' w' (hc.step hj) hfree' (ready_mono hr (Ne.symm hji)) h3.1 h5 h3.2.2⟩

theorem wpL_one {S : Array Bool → World → Prop} {i fuel : Nat} {L : Array Bool} {a : Act} {w : World} (hr : Region.ready md ops L = [i])
    (h : wpOp P ops Q i (fun a' w' => S (L.setIfInBounds i true) w' ∧ wpL P md ops Q S fuel (L.setIfInBounds i true) a' w') a w) : wpL P md ops Q S (fuel + 1) L a w :=
  ⟨fun h0 => (by rw [hr] at h0; cases h0), (by rw [hr]; intro j hj; simp at hj; subst hj; exact h)⟩

theorem wpL_done {S : Array Bool → World → Prop} {L : Array Bool} {a : Act} {w : World} (hr : Region.ready md ops L = []) (h : Q .normal a w) :
    ∀ fuel, wpL P md ops Q S fuel L a w
  | 0 => ⟨hr, h⟩
  | _ + 1 => ⟨fun _ => h, by rw [hr]; simp⟩

theorem closed_start (n : Nat) (hn : n = ops.size) : Closed md ops (Array.replicate n false) := by
  intro j o ho hj
  have hlt := (Array.getElem?_eq_some_iff.1 ho).1
  subst hn
  simp [hlt] at hj

theorem wp_region_L {S : Array Bool → World → Prop} {id : Nat} {a : Act} {w : World} (hm : P.follows .mixedOrders = true)
    (h : wpL P .any ops Q S ops.size (Array.replicate ops.size false) a w.drew) : (Code.region id ops true).wp P Q a w :=
  wp_region_any hm (wpAny_of_L _ _ _ _ h)
end
end Go.Proofs.YtnbnofmnbopknaaDoor
