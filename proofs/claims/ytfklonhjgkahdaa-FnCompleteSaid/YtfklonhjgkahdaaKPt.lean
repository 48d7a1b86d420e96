/-
  Plain lists: products of rows along a touch. No program.
  Conditions: none.
-/
import Derived.Test.YtfklonhjgkahdaaKPd
set_option linter.unusedSimpArgs false
set_option linter.unusedVariables false
set_option linter.defProp false
namespace Go.Proofs.Ytfklonhjgkahdaa
open Go
theorem times_cancel {a b c : List UInt8} (ha : IsRow a) (hb : IsRow b) (hc : IsRow c) (h1 : a.length = b.length) (h2 : a.length = c.length) (h : timesL a b = timesL a c) : b = c := by
  have e1 := timesL_assoc (turnL a) (b := a) hb h1
  have e2 := timesL_assoc (turnL a) (b := a) hc h2
  rw [turn_times ha] at e1 e2
  rw [h1, rounds_times hb] at e1
  rw [h2, rounds_times hc] at e2
  rw [e1, e2, h]
theorem pow_bell {a : List UInt8} (h : IsRow a) (j k i : Nat) (hi : i < a.length) : bell (powL a (j + k)) i = bell (powL a j) (bell (powL a k) i) := by
  rw [powL_add h, timesL_bell _ _ _ (by rw [powL_len]; exact hi)]
theorem bell_home {a : List UInt8} (h : IsRow a) {i : Nat} (hi : i < a.length) : ∃ c, 1 ≤ c ∧ c ≤ 8 ∧ bell (powL a c) i = i := by
  have hlt (k : Nat) : bell (powL a k) i < a.length := by
    have := (powL_row h k).bell_lt (i := i) (by rw [powL_len]; exact hi)
    rwa [powL_len] at this
  obtain ⟨p, q, hpq, hq, he⟩ := pigeon a.length (fun k => bell (powL a k) i) (fun k _ => hlt k)
  have h8 := h.1
  refine ⟨q - p, by omega, by omega, ?_⟩
  have h1 := pow_bell h p (q - p) i hi
  rw [show p + (q - p) = q by omega, ← he] at h1
  exact ((powL_row h p).inj' (by rw [powL_len]; exact hi) (by rw [powL_len]; exact hlt _) h1).symm
end Go.Proofs.Ytfklonhjgkahdaa
namespace Go.Proofs.Ytfklonhjgkahdaa
open Go
/-- A group. -/
structure Grp (G : Type) where
  mul : G → G → G
  one : G
  inv : G → G
  assoc : ∀ a b c, mul (mul a b) c = mul a (mul b c)
  one_mul : ∀ a, mul one a = a
  mul_one : ∀ a, mul a one = a
  inv_mul : ∀ a, mul (inv a) a = one
  mul_inv : ∀ a, mul a (inv a) = one
namespace Grp
variable {G α : Type} (g : Grp G)
def prod (H : α → G) (t : List α) : G := t.foldr (fun c r => g.mul (H c) r) g.one
theorem prod_nil (H : α → G) : g.prod H [] = g.one := rfl
theorem prod_cons (H : α → G) (c : α) (t : List α) : g.prod H (c :: t) = g.mul (H c) (g.prod H t) := rfl
end Grp
/-- The rows of a stage. -/
def Rw (n : Nat) : Type := {l : List UInt8 // IsRow l ∧ l.length = n}
def rwG (n : Nat) (hn : 3 ≤ n ∧ n ≤ 8) : Grp (Rw n) where
  mul a b := ⟨timesL a.1 b.1, timesL_row a.2.1 b.2.1 (a.2.2.trans b.2.2.symm), by rw [timesL_len, b.2.2]⟩
  one := ⟨roundsL n, roundsL_row n hn, roundsL_len n⟩
  inv a := ⟨turnL a.1, turnL_row a.2.1, by rw [turnL_len, a.2.2]⟩
  assoc a b c := Subtype.ext (timesL_assoc a.1 c.2.1 (b.2.2.trans c.2.2.symm))
  one_mul a := Subtype.ext (by show timesL (roundsL n) a.1 = a.1; have := rounds_times a.2.1; rwa [a.2.2] at this)
  mul_one a := Subtype.ext (by show timesL a.1 (roundsL n) = a.1; have := times_rounds (a := a.1) (by rw [a.2.2]; exact hn.2); rwa [a.2.2] at this)
  inv_mul a := Subtype.ext (by show timesL (turnL a.1) a.1 = roundsL n; rw [turn_times a.2.1, a.2.2])
  mul_inv a := Subtype.ext (by show timesL a.1 (turnL a.1) = roundsL n; rw [times_turn a.2.1, a.2.2])
/-- The product of the rows of some letters. -/
def prodL {α : Type} (H : α → List UInt8) (n : Nat) (t : List α) : List UInt8 := t.foldl (fun r c => timesL r (H c)) (roundsL n)
theorem fold_val {α : Type} {n : Nat} (hn : 3 ≤ n ∧ n ≤ 8) (H : α → Rw n) : ∀ (t : List α) (r : Rw n), t.foldl (fun r c => timesL r (H c).1) r.1 = ((rwG n hn).mul r ((rwG n hn).prod H t)).1 := by
  intro t
  induction t with
  | nil => intro r; rw [Grp.prod_nil, Grp.mul_one]; rfl
  | cons c t ih =>
    intro r
    rw [List.foldl_cons, Grp.prod_cons, ← Grp.assoc]
    exact ih ((rwG n hn).mul r (H c))
theorem prodL_val {α : Type} {n : Nat} (hn : 3 ≤ n ∧ n ≤ 8) (H : α → Rw n) (t : List α) : prodL (fun c => (H c).1) n t = ((rwG n hn).prod H t).1 := by
  have := fold_val hn H t (rwG n hn).one
  rw [Grp.one_mul] at this
  exact this
section
variable {α : Type} {n : Nat} {H : α → List UInt8} (hn : 3 ≤ n ∧ n ≤ 8) (hH : ∀ c, IsRow (H c) ∧ (H c).length = n)
include hn hH
theorem prodL_row (t : List α) : IsRow (prodL H n t) ∧ (prodL H n t).length = n := by
  have e := prodL_val hn (fun c => (⟨H c, hH c⟩ : Rw n)) t
  have := ((rwG n hn).prod (fun c => (⟨H c, hH c⟩ : Rw n)) t).2
  rw [← e] at this
  exact this
end
theorem under_times (cs : List (List UInt8)) : ∀ {l : List UInt8}, IsRow l → underL l cs = timesL l (underL (roundsL l.length) cs) := by
  induction cs with
  | nil => intro l h; exact (times_rounds h.1.2).symm
  | cons c cs ih =>
    intro l h
    have hr := roundsL_row _ h.1
    have hu := underL_row cs hr
    have hul : (underL (roundsL l.length) cs).length = l.length := by rw [underL_len, roundsL_len]
    have h1 := ih (applyL_row c h)
    have h2 := ih (applyL_row c hr)
    rw [applyL_len] at h1
    rw [applyL_len, roundsL_len] at h2
    show underL (applyL l c) cs = timesL l (underL (applyL (roundsL l.length) c) cs)
    rw [h1, h2, applyL, applyL, roundsL_len]
    have hc := rounds_times (chgL_row l.length c h.1)
    rw [chgL_len] at hc
    rw [hc]
    exact timesL_assoc l hu (by rw [chgL_len, hul])
theorem under_row {n : Nat} (hn : 3 ≤ n ∧ n ≤ 8) (cs : List (List UInt8)) : IsRow (underL (roundsL n) cs) ∧ (underL (roundsL n) cs).length = n := ⟨underL_row _ (roundsL_row n hn), by rw [underL_len, roundsL_len]⟩
end Go.Proofs.Ytfklonhjgkahdaa
