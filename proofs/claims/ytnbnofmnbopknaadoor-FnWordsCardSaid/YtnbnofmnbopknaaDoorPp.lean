/-
  Plain texts: the shortest part of which a text is a repetition. No program.
  Conditions: none.
-/
import Derived.Test.YtnbnofmnbopknaaDoorPb
import Derived.Lib.Repeat
set_option linter.unusedSimpArgs false
set_option linter.unusedVariables false
set_option linter.defProp false
namespace Go.Proofs.YtnbnofmnbopknaaDoor
open Go
/-- u, c times. -/
def repT (u : List UInt8) (c : Nat) : List UInt8 := (List.replicate c u).flatten
theorem repT_zero (u : List UInt8) : repT u 0 = [] := rfl
theorem repT_succ (u : List UInt8) (c : Nat) : repT u (c + 1) = u ++ repT u c := by rw [repT, List.replicate_succ, List.flatten_cons, repT]
theorem repT_snoc (u : List UInt8) : ∀ c, repT u (c + 1) = repT u c ++ u
  | 0 => by rw [repT_succ, repT_zero, List.append_nil, List.nil_append]
  | c + 1 => by
    have h := repT_snoc u c
    have h1 : repT u (c + 1 + 1) = u ++ repT u (c + 1) := repT_succ _ _
    have h2 : u ++ (repT u c ++ u) = repT u (c + 1) ++ u := by rw [← List.append_assoc, ← repT_succ]
    rw [h1, ← h2]; congr 1
theorem repT_len (u : List UInt8) : ∀ c, (repT u c).length = c * u.length
  | 0 => by simp [repT]
  | c + 1 => by rw [repT_succ, List.length_append, repT_len u c, Nat.add_mul, Nat.one_mul, Nat.add_comm]
theorem repT_one (u : List UInt8) : repT u 1 = u := by rw [repT_succ, repT_zero, List.append_nil]
theorem repT_mul (u : List UInt8) (a : Nat) : ∀ b, repT (repT u a) b = repT u (a * b)
  | 0 => by rw [Nat.mul_zero]; rfl
  | b + 1 => by
    rw [repT_succ, repT_mul u a b, Nat.mul_succ, Nat.add_comm]
    have : ∀ c d, repT u (c + d) = repT u c ++ repT u d := by
      intro c d
      induction c with
      | zero => rw [Nat.zero_add, repT_zero, List.nil_append]
      | succ c ih => rw [Nat.succ_add, repT_succ, ih, repT_succ, List.append_assoc]
    rw [this]
/-- t is its first n signs, again and again. -/
def Part (t : List UInt8) (n : Nat) : Prop := t.length % n = 0 ∧ repT (t.take n) (t.length / n) = t
instance (t : List UInt8) (n : Nat) : Decidable (Part t n) := by unfold Part; infer_instance
theorem part_all {t : List UInt8} (h : 0 < t.length) : Part t t.length := ⟨Nat.mod_self _, by rw [Nat.div_self h, List.take_length, repT_one]⟩
/-- What turns onto itself is a repetition. -/
theorem rot_rep {n : Nat} (hn : 0 < n) : ∀ (k : Nat) (t : List UInt8), t.length = k * n → t.drop n ++ t.take n = t → repT (t.take n) k = t := by
  intro k t hl hr
  have hget : ∀ i, i + n < t.length → t.getD (i + n) 0 = t.getD i 0 := fun i hi => by
    have e : (t.drop n ++ t.take n).getD i 0 = t.getD i 0 := by rw [hr]
    rw [List.getD_eq_getElem?_getD, List.getElem?_append_left (by rw [List.length_drop]; omega), List.getElem?_drop, Nat.add_comm n i, ← List.getD_eq_getElem?_getD] at e
    exact e
  have hmod : ∀ m i, i + m * n < t.length → t.getD (i + m * n) 0 = t.getD i 0 := by
    intro m
    induction m with
    | zero => intro i _; rw [Nat.zero_mul, Nat.add_zero]
    | succ m ih =>
      intro i hi
      rw [Nat.succ_mul] at hi
      have := hget (i + m * n) (by omega)
      rw [show i + (m + 1) * n = i + m * n + n by rw [Nat.succ_mul]; omega, this, ih i (by omega)]
  have key : ∀ c, c * n ≤ t.length → repT (t.take n) c = t.take (c * n) := by
    intro c
    induction c with
    | zero => intro _; rw [Nat.zero_mul, List.take_zero]; rfl
    | succ c ih =>
      intro hc
      rw [Nat.succ_mul] at hc
      rw [repT_snoc, ih (by omega), Nat.succ_mul, List.take_add]
      congr 1
      have hl1 : (t.take n).length = n := by rw [List.length_take]; omega
      refine ext_getD (d := 0) (by rw [hl1, List.length_take, List.length_drop]; omega) fun i hi => ?_
      rw [hl1] at hi
      have e1 : (t.take n).getD i 0 = t.getD i 0 := by simp only [List.getD_eq_getElem?_getD, List.getElem?_take_of_lt hi]
      have e2 : ((t.drop (c * n)).take n).getD i 0 = t.getD (i + c * n) 0 := by simp only [List.getD_eq_getElem?_getD, List.getElem?_take_of_lt hi, List.getElem?_drop, Nat.add_comm]
      rw [e1, e2, hmod c i (by omega)]
  have := key k (by omega)
  rw [this, ← hl, List.take_length]
theorem rep_rot {u : List UInt8} {k : Nat} (hk : 0 < k) : (repT u k).drop u.length ++ (repT u k).take u.length = repT u k := by
  obtain ⟨c, rfl⟩ : ∃ c, k = c + 1 := ⟨k - 1, by omega⟩
  rw [show (repT u (c + 1)).drop u.length = repT u c by rw [repT_succ, List.drop_left], show (repT u (c + 1)).take u.length = u by rw [repT_succ, List.take_left], ← repT_snoc]
theorem part_iff {t : List UInt8} {n : Nat} (hn : 0 < n) (hl : n ≤ t.length) (hm : t.length % n = 0) : t.drop n ++ t.take n = t ↔ repT (t.take n) (t.length / n) = t := by
  have hd : t.length = t.length / n * n := (Nat.div_mul_cancel (Nat.dvd_of_mod_eq_zero hm)).symm
  constructor
  · intro h; exact rot_rep hn _ t hd h
  · intro h
    have hl1 : (t.take n).length = n := by rw [List.length_take]; omega
    have := rep_rot (u := t.take n) (k := t.length / n) (Nat.div_pos hl hn)
    rw [h, hl1] at this
    exact this
/-- The least part's length. -/
def LeastP (t : List UInt8) (n : Nat) : Prop := (0 < n ∧ n ≤ t.length) ∧ Part t n ∧ ∀ j, 0 < j → j < n → ¬ Part t j
theorem leastP_ex {t : List UInt8} (h : 0 < t.length) : ∃ n, LeastP t n := by
  have key : ∀ f n, 0 < n → n + f = t.length → (∀ j, 0 < j → j < n → ¬ Part t j) → ∃ n, LeastP t n := by
    intro f
    induction f with
    | zero => intro n h0 hn hno; exact ⟨n, ⟨h0, by omega⟩, by rw [show n = t.length by omega]; exact part_all h, hno⟩
    | succ f ih =>
      intro n h0 hn hno
      by_cases hp : Part t n
      · exact ⟨n, ⟨h0, by omega⟩, hp, hno⟩
      · refine ih (n + 1) (by omega) (by omega) fun j h1 h2 => ?_
        by_cases hj : j = n
        · rw [hj]; exact hp
        · exact hno j h1 (by omega)
  exact key (t.length - 1) 1 (by omega) (by omega) fun j h1 h2 => by omega
/-- The least part is its own least part. -/
theorem leastP_part {t : List UInt8} {n : Nat} (h : LeastP t n) : LeastP (t.take n) n := by
  obtain ⟨⟨h0, hl⟩, ⟨hm, hr⟩, hno⟩ := h
  have hl1 : (t.take n).length = n := by rw [List.length_take]; omega
  refine ⟨⟨h0, by omega⟩, by have := part_all (t := t.take n) (by omega); rwa [hl1] at this, fun j h1 h2 hp => hno j h1 h2 ?_⟩
  obtain ⟨hm2, hr2⟩ := hp
  rw [hl1] at hm2 hr2
  have htk : (t.take n).take j = t.take j := by rw [List.take_take, Nat.min_eq_left (by omega)]
  rw [htk] at hr2
  have hd1 : j ∣ n := Nat.dvd_of_mod_eq_zero hm2
  have hd2 : n ∣ t.length := Nat.dvd_of_mod_eq_zero hm
  refine ⟨Nat.mod_eq_zero_of_dvd (Nat.dvd_trans hd1 hd2), ?_⟩
  have e : t.length / j = n / j * (t.length / n) := by
    obtain ⟨a, rfl⟩ := hd1
    obtain ⟨b, hb⟩ := hd2
    have ha : 0 < a := by
      rcases Nat.eq_zero_or_pos a with h | h
      · rw [h] at h0; simp at h0
      · exact h
    rw [hb, Nat.mul_div_cancel_left _ h1, Nat.mul_assoc, Nat.mul_div_cancel_left _ h1, ← Nat.mul_assoc, Nat.mul_div_cancel_left _ h0]
  rw [e, ← repT_mul, hr2, hr]
theorem repeat_rep (u : List UInt8) (c : Nat) : Lib.repeatL u c = repT u c := by
  induction c with
  | zero => rfl
  | succ c ih => first | (rw [repT_succ, ← ih]; rfl) | simp [Lib.repeatL, repT]
end Go.Proofs.YtnbnofmnbopknaaDoor
