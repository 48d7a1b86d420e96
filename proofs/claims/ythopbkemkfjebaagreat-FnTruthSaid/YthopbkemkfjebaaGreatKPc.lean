/-
  Plain lists: the cycles of a row, its order, its sign; ranks. No program.
  Conditions: none.
-/
import Derived.Test.YthopbkemkfjebaaGreatKPd
set_option linter.unusedSimpArgs false
set_option linter.unusedVariables false
set_option linter.defProp false
namespace Go.Proofs.YthopbkemkfjebaaGreat
open Go
theorem times_cancel {a b c : List UInt8} (ha : IsRow a) (hb : IsRow b) (hc : IsRow c) (h1 : a.length = b.length) (h2 : a.length = c.length) (h : timesL a b = timesL a c) : b = c := by
  have e1 := timesL_assoc (turnL a) (b := a) hb h1
  have e2 := timesL_assoc (turnL a) (b := a) hc h2
  rw [turn_times ha] at e1 e2
  rw [h1, rounds_times hb] at e1
  rw [h2, rounds_times hc] at e2
  rw [e1, e2, h]
theorem pow_bell {a : List UInt8} (h : IsRow a) (j k i : Nat) (hi : i < a.length) : bell (powL a (j + k)) i = bell (powL a j) (bell (powL a k) i) := by
  rw [powL_add h, timesL_bell _ _ _ (by rw [powL_len]; exact hi)]
theorem bell_home {a : List UInt8} (h : IsRow a) {i : Nat} (hi : i < a.length) : ∃ c, 1 ≤ c ∧ c ≤ 8 ∧ bell (powL a c) i = i := by
  have hlt (k : Nat) : bell (powL a k) i < a.length := by
    have := (powL_row h k).bell_lt (i := i) (by rw [powL_len]; exact hi)
    rwa [powL_len] at this
  obtain ⟨p, q, hpq, hq, he⟩ := pigeon a.length (fun k => bell (powL a k) i) (fun k _ => hlt k)
  have h8 := h.1
  refine ⟨q - p, by omega, by omega, ?_⟩
  have h1 := pow_bell h p (q - p) i hi
  rw [show p + (q - p) = q by omega, ← he] at h1
  exact ((powL_row h p).inj' (by rw [powL_len]; exact hi) (by rw [powL_len]; exact hlt _) h1).symm
end Go.Proofs.YthopbkemkfjebaaGreat
namespace Go.Proofs.YthopbkemkfjebaaGreat
open Go
/-- The place to which k steps lead. -/
def itb (a : List UInt8) : Nat → Nat → Nat
  | 0, i => i
  | k + 1, i => bell a (itb a k i)
section
variable {a : List UInt8}
theorem itb_lt (h : IsRow a) {i : Nat} (hi : i < a.length) : ∀ k, itb a k i < a.length
  | 0 => hi
  | k + 1 => h.bell_lt (itb_lt h hi k)
theorem itb_add (j : Nat) (i : Nat) : ∀ k, itb a (j + k) i = itb a k (itb a j i)
  | 0 => rfl
  | k + 1 => by rw [← Nat.add_assoc]; show bell a _ = bell a _; rw [itb_add j i k]
theorem itb_inj (h : IsRow a) {i j : Nat} (hi : i < a.length) (hj : j < a.length) : ∀ k, itb a k i = itb a k j → i = j
  | 0, e => e
  | k + 1, e => itb_inj h hi hj k (h.inj' (itb_lt h hi k) (itb_lt h hj k) e)
theorem itb_pow (h : IsRow a) {i : Nat} (hi : i < a.length) : ∀ k, bell (powL a k) i = itb a k i
  | 0 => roundsL_bell _ _ h.1.2 hi
  | k + 1 => by
    have h1 := pow_bell h 1 k i hi
    have e : powL a 1 = a := rounds_times h
    rw [e, Nat.add_comm 1 k, itb_pow h hi k] at h1
    exact h1
/-- c is the length of the cycle of i. -/
def IsPer (a : List UInt8) (i c : Nat) : Prop := 1 ≤ c ∧ c ≤ 8 ∧ itb a c i = i ∧ ∀ j, 1 ≤ j → j < c → itb a j i ≠ i
theorem per_exists (h : IsRow a) {i : Nat} (hi : i < a.length) : ∃ c, IsPer a i c := by
  obtain ⟨c, h1, h8, hc⟩ := bell_home h hi
  rw [itb_pow h hi] at hc
  have least : ∀ n k, k ≤ n → 1 ≤ k → k ≤ 8 → itb a k i = i → ∃ c, IsPer a i c := by
    intro n
    induction n with
    | zero => intro k hk h1 _ _; omega
    | succ n ih =>
      intro k hk h1 h2 h3
      by_cases hx : ∃ j, 1 ≤ j ∧ j < k ∧ itb a j i = i
      · obtain ⟨j, hj1, hj2, hj3⟩ := hx
        exact ih j (by omega) hj1 (by omega) hj3
      · exact ⟨k, h1, h2, h3, fun j hj1 hj2 he => hx ⟨j, hj1, hj2, he⟩⟩
  exact least c c (Nat.le_refl _) h1 h8 hc
/-- The length of the cycle of i. -/
def per (a : List UInt8) (i : Nat) : Nat := ((List.range 9).find? fun c => decide (1 ≤ c) && decide (itb a c i = i)).getD 0
theorem per_is (h : IsRow a) {i : Nat} (hi : i < a.length) : IsPer a i (per a i) := by
  obtain ⟨c, hc⟩ := per_exists h hi
  have : (List.range 9).find? (fun c => decide (1 ≤ c) && decide (itb a c i = i)) = some c := by
    rw [List.find?_range_eq_some]
    refine ⟨by simp [hc.1, hc.2.2.1], by simp; have := hc.2.1; omega, fun j hj => ?_⟩
    by_cases h0 : 1 ≤ j
    · simp [hc.2.2.2 j h0 hj]
    · simp [h0]
  unfold per
  rw [this]
  exact hc
theorem IsPer.many {i c : Nat} (h : IsPer a i c) : ∀ m, itb a (c * m) i = i
  | 0 => rfl
  | m + 1 => by rw [Nat.mul_succ, itb_add, h.many m, h.2.2.1]
theorem IsPer.mod {i c : Nat} (h : IsPer a i c) (k : Nat) : itb a k i = itb a (k % c) i := by
  have e : c * (k / c) + k % c = k := Nat.div_add_mod k c
  rw [← congrArg (fun n => itb a n i) e]
  show itb a (c * (k / c) + k % c) i = _
  rw [itb_add, h.many]
theorem IsPer.inj (hr : IsRow a) {i c j k : Nat} (h : IsPer a i c) (hi : i < a.length) (hj : j < c) (hk : k < c) (he : itb a j i = itb a k i) : j = k := by
  have key : ∀ j k, j < k → k < c → itb a j i ≠ itb a k i := fun j k hjk hk he => by
    have e : itb a k i = itb a j (itb a (k - j) i) := by rw [← itb_add, Nat.sub_add_cancel (Nat.le_of_lt hjk)]
    rw [e] at he
    have := itb_inj hr hi (itb_lt hr hi _) j he
    exact h.2.2.2 (k - j) (by omega) (by omega) this.symm
  rcases Nat.lt_trichotomy j k with h1 | h1 | h1
  · exact absurd he (key j k h1 hk)
  · exact h1
  · exact absurd he.symm (key k j h1 hj)
/-- y lies in the cycle of x. -/
def InC (a : List UInt8) (x y : Nat) : Prop := ∃ k, itb a k x = y
theorem InC.refl (x : Nat) : InC a x x := ⟨0, rfl⟩
theorem InC.trans {x y z : Nat} (h : InC a x y) (k : InC a y z) : InC a x z := by
  obtain ⟨m, rfl⟩ := h
  obtain ⟨n, rfl⟩ := k
  exact ⟨m + n, itb_add m x n⟩
theorem InC.symm (hr : IsRow a) {x y : Nat} (hx : x < a.length) (h : InC a x y) : InC a y x := by
  obtain ⟨m, rfl⟩ := h
  have hp := per_is hr hx
  have h1 := hp.1
  refine ⟨per a x * m - m, ?_⟩
  rw [← itb_add]
  have : m ≤ per a x * m := Nat.le_mul_of_pos_left m h1
  rw [Nat.add_sub_cancel' this]
  exact hp.many m
theorem InC.small (hr : IsRow a) {x y : Nat} (hx : x < a.length) (h : InC a x y) : ∃ k, k < per a x ∧ itb a k x = y := by
  obtain ⟨m, rfl⟩ := h
  have hp := per_is hr hx
  exact ⟨m % per a x, Nat.mod_lt _ hp.1, (hp.mod m).symm⟩
end
end Go.Proofs.YthopbkemkfjebaaGreat
namespace Go.Proofs.YthopbkemkfjebaaGreat
open Go
/-- A group. -/
structure Grp (G : Type) where
  mul : G → G → G
  one : G
  inv : G → G
  assoc : ∀ a b c, mul (mul a b) c = mul a (mul b c)
  one_mul : ∀ a, mul one a = a
  mul_one : ∀ a, mul a one = a
  inv_mul : ∀ a, mul (inv a) a = one
  mul_inv : ∀ a, mul a (inv a) = one
namespace Grp
variable {G α : Type} (g : Grp G)
def prod (H : α → G) (t : List α) : G := t.foldr (fun c r => g.mul (H c) r) g.one
theorem prod_nil (H : α → G) : g.prod H [] = g.one := rfl
theorem prod_cons (H : α → G) (c : α) (t : List α) : g.prod H (c :: t) = g.mul (H c) (g.prod H t) := rfl
end Grp
/-- The rows of a stage. -/
def Rw (n : Nat) : Type := {l : List UInt8 // IsRow l ∧ l.length = n}
def rwG (n : Nat) (hn : 3 ≤ n ∧ n ≤ 8) : Grp (Rw n) where
  mul a b := ⟨timesL a.1 b.1, timesL_row a.2.1 b.2.1 (a.2.2.trans b.2.2.symm), by rw [timesL_len, b.2.2]⟩
  one := ⟨roundsL n, roundsL_row n hn, roundsL_len n⟩
  inv a := ⟨turnL a.1, turnL_row a.2.1, by rw [turnL_len, a.2.2]⟩
  assoc a b c := Subtype.ext (timesL_assoc a.1 c.2.1 (b.2.2.trans c.2.2.symm))
  one_mul a := Subtype.ext (by show timesL (roundsL n) a.1 = a.1; have := rounds_times a.2.1; rwa [a.2.2] at this)
  mul_one a := Subtype.ext (by show timesL a.1 (roundsL n) = a.1; have := times_rounds (a := a.1) (by rw [a.2.2]; exact hn.2); rwa [a.2.2] at this)
  inv_mul a := Subtype.ext (by show timesL (turnL a.1) a.1 = roundsL n; rw [turn_times a.2.1, a.2.2])
  mul_inv a := Subtype.ext (by show timesL a.1 (turnL a.1) = roundsL n; rw [times_turn a.2.1, a.2.2])
/-- The product of the rows of some letters. -/
def prodL {α : Type} (H : α → List UInt8) (n : Nat) (t : List α) : List UInt8 := t.foldl (fun r c => timesL r (H c)) (roundsL n)
theorem fold_val {α : Type} {n : Nat} (hn : 3 ≤ n ∧ n ≤ 8) (H : α → Rw n) : ∀ (t : List α) (r : Rw n), t.foldl (fun r c => timesL r (H c).1) r.1 = ((rwG n hn).mul r ((rwG n hn).prod H t)).1 := by
  intro t
  induction t with
  | nil => intro r; rw [Grp.prod_nil, Grp.mul_one]; rfl
  | cons c t ih =>
    intro r
    rw [List.foldl_cons, Grp.prod_cons, ← Grp.assoc]
    exact ih ((rwG n hn).mul r (H c))
theorem prodL_val {α : Type} {n : Nat} (hn : 3 ≤ n ∧ n ≤ 8) (H : α → Rw n) (t : List α) : prodL (fun c => (H c).1) n t = ((rwG n hn).prod H t).1 := by
  have := fold_val hn H t (rwG n hn).one
  rw [Grp.one_mul] at this
  exact this
section
variable {α : Type} {n : Nat} {H : α → List UInt8} (hn : 3 ≤ n ∧ n ≤ 8) (hH : ∀ c, IsRow (H c) ∧ (H c).length = n)
include hn hH
theorem prodL_row (t : List α) : IsRow (prodL H n t) ∧ (prodL H n t).length = n := by
  have e := prodL_val hn (fun c => (⟨H c, hH c⟩ : Rw n)) t
  have := ((rwG n hn).prod (fun c => (⟨H c, hH c⟩ : Rw n)) t).2
  rw [← e] at this
  exact this
end
theorem under_times (cs : List (List UInt8)) : ∀ {l : List UInt8}, IsRow l → underL l cs = timesL l (underL (roundsL l.length) cs) := by
  induction cs with
  | nil => intro l h; exact (times_rounds h.1.2).symm
  | cons c cs ih =>
    intro l h
    have hr := roundsL_row _ h.1
    have hu := underL_row cs hr
    have hul : (underL (roundsL l.length) cs).length = l.length := by rw [underL_len, roundsL_len]
    have h1 := ih (applyL_row c h)
    have h2 := ih (applyL_row c hr)
    rw [applyL_len] at h1
    rw [applyL_len, roundsL_len] at h2
    show underL (applyL l c) cs = timesL l (underL (applyL (roundsL l.length) c) cs)
    rw [h1, h2, applyL, applyL, roundsL_len]
    have hc := rounds_times (chgL_row l.length c h.1)
    rw [chgL_len] at hc
    rw [hc]
    exact timesL_assoc l hu (by rw [chgL_len, hul])
theorem under_row {n : Nat} (hn : 3 ≤ n ∧ n ≤ 8) (cs : List (List UInt8)) : IsRow (underL (roundsL n) cs) ∧ (underL (roundsL n) cs).length = n := ⟨underL_row _ (roundsL_row n hn), by rw [underL_len, roundsL_len]⟩
end Go.Proofs.YthopbkemkfjebaaGreat
