/-
  Plain lists: products of rows along a touch. No program.
  Conditions: none.
-/
import Derived.Test.YtnincmnkdjlndaaPh
import Derived.Test.YtnincmnkdjlndaaPq
set_option linter.unusedSimpArgs false
set_option linter.unusedVariables false
set_option linter.defProp false
namespace Go.Proofs.Ytnincmnkdjlndaa
open Go
/-- A group. -/
structure Grp (G : Type) where
  mul : G → G → G
  one : G
  inv : G → G
  assoc : ∀ a b c, mul (mul a b) c = mul a (mul b c)
  one_mul : ∀ a, mul one a = a
  mul_one : ∀ a, mul a one = a
  inv_mul : ∀ a, mul (inv a) a = one
  mul_inv : ∀ a, mul a (inv a) = one
namespace Grp
variable {G α : Type} (g : Grp G)
def prod (H : α → G) (t : List α) : G := t.foldr (fun c r => g.mul (H c) r) g.one
theorem prod_nil (H : α → G) : g.prod H [] = g.one := rfl
theorem prod_cons (H : α → G) (c : α) (t : List α) : g.prod H (c :: t) = g.mul (H c) (g.prod H t) := rfl
theorem prod_append (H : α → G) (a b : List α) : g.prod H (a ++ b) = g.mul (g.prod H a) (g.prod H b) := by
  induction a with
  | nil => rw [List.nil_append, prod_nil, g.one_mul]
  | cons c a ih => rw [List.cons_append, prod_cons, prod_cons, ih, g.assoc]
theorem cancel {a b c : G} (h : g.mul a b = g.mul a c) : b = c := by
  have := congrArg (g.mul (g.inv a)) h
  rwa [← g.assoc, ← g.assoc, g.inv_mul, g.one_mul, g.one_mul] at this
theorem cancelR {a b c : G} (h : g.mul b a = g.mul c a) : b = c := by
  have := congrArg (fun x => g.mul x (g.inv a)) h
  simp only [g.assoc, g.mul_inv, g.mul_one] at this
  exact this
theorem comm_one {a b : G} (h : g.mul a b = g.one) : g.mul b a = g.one := by
  have hb : b = g.inv a := g.cancel (a := a) (by rw [h, g.mul_inv])
  rw [hb, g.inv_mul]
theorem inv_eq {a b : G} (h : g.mul a b = g.one) : b = g.inv a := g.cancel (a := a) (by rw [h, g.mul_inv])
theorem prod_turn (H : α → G) (a b : List α) : g.prod H (a ++ b) = g.one ↔ g.prod H (b ++ a) = g.one := by
  rw [prod_append, prod_append]
  exact ⟨g.comm_one, g.comm_one⟩
theorem prod_rev (H K : α → G) (h : ∀ c, g.mul (H c) (K c) = g.one) : ∀ t : List α, g.mul (g.prod H t) (g.prod K t.reverse) = g.one := by
  intro t
  induction t with
  | nil => rw [List.reverse_nil, prod_nil, prod_nil, g.one_mul]
  | cons c t ih =>
    rw [List.reverse_cons, prod_append, prod_cons, prod_cons, prod_nil, g.mul_one, g.assoc, ← g.assoc (g.prod H t), ih, g.one_mul, h]
theorem prod_conj (P : G) (X : α → G) : ∀ t : List α, g.mul P (g.prod (fun c => g.mul (X c) P) t) = g.mul (g.prod (fun c => g.mul P (X c)) t) P := by
  intro t
  induction t with
  | nil => rw [prod_nil, prod_nil, g.mul_one, g.one_mul]
  | cons c t ih => rw [prod_cons, prod_cons, g.assoc, g.assoc, ih, g.assoc]
/-- A lead that reads the same both ways but for its call: a touch comes round if its reversal does. -/
theorem prod_pal {P : G} {X : α → G} (hP : g.mul P P = g.one) (hX : ∀ c, g.mul (X c) (X c) = g.one) (t : List α) : g.prod (fun c => g.mul P (X c)) t = g.one → g.prod (fun c => g.mul P (X c)) t.reverse = g.one := by
  intro h
  have h1 := g.prod_rev (fun c => g.mul P (X c)) (fun c => g.mul (X c) P) (fun c => by rw [g.assoc, ← g.assoc (X c), hX, g.one_mul, hP]) t
  rw [h, g.one_mul] at h1
  have h2 := g.prod_conj P X t.reverse
  rw [h1, g.mul_one] at h2
  exact (g.cancelR (a := P) (by rw [g.one_mul]; exact h2)).symm
end Grp
/-- The rows of a stage. -/
def Rw (n : Nat) : Type := {l : List UInt8 // IsRow l ∧ l.length = n}
def rwG (n : Nat) (hn : 3 ≤ n ∧ n ≤ 8) : Grp (Rw n) where
  mul a b := ⟨timesL a.1 b.1, timesL_row a.2.1 b.2.1 (a.2.2.trans b.2.2.symm), by rw [timesL_len, b.2.2]⟩
  one := ⟨roundsL n, roundsL_row n hn, roundsL_len n⟩
  inv a := ⟨turnL a.1, turnL_row a.2.1, by rw [turnL_len, a.2.2]⟩
  assoc a b c := Subtype.ext (timesL_assoc a.1 c.2.1 (b.2.2.trans c.2.2.symm))
  one_mul a := Subtype.ext (by show timesL (roundsL n) a.1 = a.1; have := rounds_times a.2.1; rwa [a.2.2] at this)
  mul_one a := Subtype.ext (by show timesL a.1 (roundsL n) = a.1; have := times_rounds (a := a.1) (by rw [a.2.2]; exact hn.2); rwa [a.2.2] at this)
  inv_mul a := Subtype.ext (by show timesL (turnL a.1) a.1 = roundsL n; rw [turn_times a.2.1, a.2.2])
  mul_inv a := Subtype.ext (by show timesL a.1 (turnL a.1) = roundsL n; rw [times_turn a.2.1, a.2.2])
/-- The product of the rows of some letters. -/
def prodL {α : Type} (H : α → List UInt8) (n : Nat) (t : List α) : List UInt8 := t.foldl (fun r c => timesL r (H c)) (roundsL n)
theorem fold_val {α : Type} {n : Nat} (hn : 3 ≤ n ∧ n ≤ 8) (H : α → Rw n) : ∀ (t : List α) (r : Rw n), t.foldl (fun r c => timesL r (H c).1) r.1 = ((rwG n hn).mul r ((rwG n hn).prod H t)).1 := by
  intro t
  induction t with
  | nil => intro r; rw [Grp.prod_nil, Grp.mul_one]; rfl
  | cons c t ih =>
    intro r
    rw [List.foldl_cons, Grp.prod_cons, ← Grp.assoc]
    exact ih ((rwG n hn).mul r (H c))
theorem prodL_val {α : Type} {n : Nat} (hn : 3 ≤ n ∧ n ≤ 8) (H : α → Rw n) (t : List α) : prodL (fun c => (H c).1) n t = ((rwG n hn).prod H t).1 := by
  have := fold_val hn H t (rwG n hn).one
  rw [Grp.one_mul] at this
  exact this
theorem rounds_iff {n : Nat} (hn : 3 ≤ n ∧ n ≤ 8) {x : Rw n} : x.1 = roundsL n ↔ x = (rwG n hn).one := ⟨fun h => Subtype.ext h, fun h => by rw [h]; rfl⟩
section
variable {α : Type} {n : Nat} {H : α → List UInt8} (hn : 3 ≤ n ∧ n ≤ 8) (hH : ∀ c, IsRow (H c) ∧ (H c).length = n)
include hn hH
theorem prodL_row (t : List α) : IsRow (prodL H n t) ∧ (prodL H n t).length = n := by
  have e := prodL_val hn (fun c => (⟨H c, hH c⟩ : Rw n)) t
  have := ((rwG n hn).prod (fun c => (⟨H c, hH c⟩ : Rw n)) t).2
  rw [← e] at this
  exact this
theorem prodL_append (a b : List α) : prodL H n (a ++ b) = timesL (prodL H n a) (prodL H n b) := by
  have e := fun t => prodL_val hn (fun c => (⟨H c, hH c⟩ : Rw n)) t
  have h := congrArg Subtype.val ((rwG n hn).prod_append (fun c => (⟨H c, hH c⟩ : Rw n)) a b)
  rw [← e] at h
  refine Eq.trans h ?_
  show timesL _ _ = _
  rw [← e, ← e]
/-- Rotations of a touch come round together. -/
theorem prodL_turn (a b : List α) : prodL H n (a ++ b) = roundsL n ↔ prodL H n (b ++ a) = roundsL n := by
  have e := fun t => prodL_val hn (fun c => (⟨H c, hH c⟩ : Rw n)) t
  have := (rwG n hn).prod_turn (fun c => (⟨H c, hH c⟩ : Rw n)) a b
  rw [← rounds_iff hn, ← rounds_iff hn, ← e, ← e] at this
  exact this
end
theorem prodL_pal {α : Type} {n : Nat} (hn : 3 ≤ n ∧ n ≤ 8) {P : List UInt8} {X : α → List UInt8} (hP : IsRow P ∧ P.length = n) (hX : ∀ c, IsRow (X c) ∧ (X c).length = n) (hPP : timesL P P = roundsL n) (hXX : ∀ c, timesL (X c) (X c) = roundsL n) (t : List α)
    (h : prodL (fun c => timesL P (X c)) n t = roundsL n) : prodL (fun c => timesL P (X c)) n t.reverse = roundsL n := by
  have e := fun t => prodL_val hn (fun c => (rwG n hn).mul ⟨P, hP⟩ ⟨X c, hX c⟩) t
  have := (rwG n hn).prod_pal (P := ⟨P, hP⟩) (X := fun c => ⟨X c, hX c⟩) (Subtype.ext hPP) (fun c => Subtype.ext (hXX c)) t
  rw [← rounds_iff hn, ← rounds_iff hn, ← e, ← e] at this
  exact this h
/-! ### rows under changes -/
theorem under_times (cs : List (List UInt8)) : ∀ {l : List UInt8}, IsRow l → underL l cs = timesL l (underL (roundsL l.length) cs) := by
  induction cs with
  | nil => intro l h; exact (times_rounds h.1.2).symm
  | cons c cs ih =>
    intro l h
    have hr := roundsL_row _ h.1
    have hu := underL_row cs hr
    have hul : (underL (roundsL l.length) cs).length = l.length := by rw [underL_len, roundsL_len]
    have h1 := ih (applyL_row c h)
    have h2 := ih (applyL_row c hr)
    rw [applyL_len] at h1
    rw [applyL_len, roundsL_len] at h2
    show underL (applyL l c) cs = timesL l (underL (applyL (roundsL l.length) c) cs)
    rw [h1, h2, applyL, applyL, roundsL_len]
    have hc := rounds_times (chgL_row l.length c h.1)
    rw [chgL_len] at hc
    rw [hc]
    exact timesL_assoc l hu (by rw [chgL_len, hul])
theorem under_append (l : List UInt8) (a b : List (List UInt8)) : underL l (a ++ b) = underL (underL l a) b := by rw [underL, List.foldl_append]; rfl
theorem under_one {n : Nat} (hn : 3 ≤ n ∧ n ≤ 8) (c : List UInt8) : underL (roundsL n) [c] = chgL n c := by
  show applyL (roundsL n) c = _
  rw [applyL, roundsL_len]
  have hc := rounds_times (chgL_row n c hn)
  rwa [chgL_len] at hc
theorem under_row {n : Nat} (hn : 3 ≤ n ∧ n ≤ 8) (cs : List (List UInt8)) : IsRow (underL (roundsL n) cs) ∧ (underL (roundsL n) cs).length = n := ⟨underL_row _ (roundsL_row n hn), by rw [underL_len, roundsL_len]⟩
theorem under_app {n : Nat} (hn : 3 ≤ n ∧ n ≤ 8) (a b : List (List UInt8)) : underL (roundsL n) (a ++ b) = timesL (underL (roundsL n) a) (underL (roundsL n) b) := by
  have := under_times b (under_row hn a).1
  rw [(under_row hn a).2] at this
  rw [under_append, this]
/-- The changes in reverse order lead back. -/
theorem under_rev {n : Nat} (hn : 3 ≤ n ∧ n ≤ 8) : ∀ cs : List (List UInt8), (∀ c ∈ cs, IsChange n c) → timesL (underL (roundsL n) cs) (underL (roundsL n) cs.reverse) = roundsL n := by
  intro cs
  induction cs with
  | nil => intro _; have := times_rounds (roundsL_row n hn).1.2; rwa [roundsL_len] at this
  | cons c cs ih =>
    intro h
    have hi := ih fun x hx => h x (by simp [hx])
    have e1 : underL (roundsL n) (c :: cs) = timesL (chgL n c) (underL (roundsL n) cs) := by
      have := under_app hn [c] cs
      rwa [under_one hn] at this
    have e2 : underL (roundsL n) (c :: cs).reverse = timesL (underL (roundsL n) cs.reverse) (chgL n c) := by
      rw [List.reverse_cons, under_app hn, under_one hn]
    let g := rwG n hn
    let x : Rw n := ⟨chgL n c, chgL_row n c hn, chgL_len n c⟩
    let u : Rw n := ⟨_, under_row hn cs⟩
    let v : Rw n := ⟨_, under_row hn cs.reverse⟩
    have huv : g.mul u v = g.one := Subtype.ext hi
    have hxx : g.mul x x = g.one := Subtype.ext (chg_inv (h c (by simp))).1
    have : g.mul (g.mul x u) (g.mul v x) = g.one := by rw [g.assoc, ← g.assoc u, huv, g.one_mul, hxx]
    rw [e1, e2]
    exact congrArg Subtype.val this
theorem turn_of {n : Nat} {a b : List UInt8} (ha : IsRow a) (hb : IsRow b) (hla : a.length = n) (hlb : b.length = n) (h : timesL a b = roundsL n) : b = turnL a := by
  have hn : 3 ≤ n ∧ n ≤ 8 := hla ▸ ha.1
  exact congrArg Subtype.val ((rwG n hn).inv_eq (a := ⟨a, ha, hla⟩) (b := ⟨b, hb, hlb⟩) (Subtype.ext h))
end Go.Proofs.Ytnincmnkdjlndaa
