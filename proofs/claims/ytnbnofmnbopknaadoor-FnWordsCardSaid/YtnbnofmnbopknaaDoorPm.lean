/-
  Plain lists: what some programs mean: a touch, a repeated part, a definition that is used. No program.
  Conditions: none.
-/
import Derived.Test.YtnbnofmnbopknaaDoorPf
import Derived.Test.YtnbnofmnbopknaaDoorPp
set_option linter.unusedSimpArgs false
set_option linter.unusedVariables false
set_option linter.defProp false
namespace Go.Proofs.YtnbnofmnbopknaaDoor
open Go
theorem off_getD (pre rest : List UInt8) (i : Nat) : (pre ++ rest).getD (pre.length + i) 0 = rest.getD i 0 := by
  rw [List.getD_eq_getElem?_getD, List.getD_eq_getElem?_getD, List.getElem?_append_right (by omega), Nat.add_sub_cancel_left]
theorem off_left (pre rest : List UInt8) (i : Nat) (h : i < pre.length) : (pre ++ rest).getD i 0 = pre.getD i 0 := by
  rw [List.getD_eq_getElem?_getD, List.getD_eq_getElem?_getD, List.getElem?_append_left h]
theorem one_getD (x : UInt8) (l : List UInt8) (i : Nat) : (x :: l).getD (1 + i) 0 = l.getD i 0 := by rw [Nat.add_comm]; rfl
def CallsL (t : List UInt8) : Prop := ∀ c ∈ t, c.toNat = 112 ∨ c.toNat = 98 ∨ c.toNat = 115
theorem calls_getD {t : List UInt8} (h : CallsL t) {i : Nat} (hi : i < t.length) : (t.getD i 0).toNat = 112 ∨ (t.getD i 0).toNat = 98 ∨ (t.getD i 0).toNat = 115 := h _ (by rw [List.getD_eq_getElem?_getD, List.getElem?_eq_getElem hi]; exact List.getElem_mem hi)
theorem blk_letters (s : List UInt8) (kn : List (UInt8 × List UInt8)) (g dep most : Nat) : ∀ (t out : List UInt8) (a : Nat) (q : Bool), CallsL t → (∀ i < t.length, s.getD (a + i) 0 = t.getD i 0) → a + t.length ≤ s.length → out.length + t.length ≤ 61 → blk s kn (t.length + g) a out q dep most = blk s kn g (a + t.length) (out ++ t) (q || decide (t ≠ [])) dep most
  | [], out, a, q, _, _, _, _ => by simp
  | c :: t, out, a, q, hc, hs, hl, h61 => by
    have h1 := hc c (by simp)
    have e0 : s.getD a 0 = c := hs 0 (by simp)
    rw [List.length_cons] at hl h61
    rw [List.length_cons, show t.length + 1 + g = (t.length + g) + 1 by omega, blk, if_neg (by omega), e0, if_neg (by omega), if_neg (by omega), if_pos h1]
    have e1 : (out ++ [c]).take 61 = out ++ [c] := List.take_of_length_le (by rw [List.length_append, List.length_singleton]; omega)
    rw [e1, blk_letters s kn g dep most t (out ++ [c]) (a + 1) true (fun x hx => hc x (by simp [hx])) (fun i hi => by
      have := hs (i + 1) (by rw [List.length_cons]; omega)
      rw [List.getD_cons_succ] at this
      rwa [Nat.add_assoc, Nat.add_comm 1 i]) (by omega) (by rw [List.length_append, List.length_singleton]; omega)]
    have e2 : a + 1 + t.length = a + (t.length + 1) := by omega
    rw [e2]; simp
theorem blk_word {s : List UInt8} {kn : List (UInt8 × List UInt8)} {f dep most : Nat} {t : List UInt8} {a : Nat} (hc : CallsL t) (h1 : 1 ≤ t.length) (hs : ∀ i < t.length, s.getD (a + i) 0 = t.getD i 0) (hl : a + t.length ≤ s.length) (h61 : t.length ≤ 61) (hf : 100 ≤ f) (he : s.length ≤ a + t.length ∨ (s.getD (a + t.length) 0).toNat = 41 ∨ (s.getD (a + t.length) 0).toNat = 59) : blk s kn f a [] false dep most = some (t, a + t.length, most) := by
  obtain ⟨g, rfl⟩ : ∃ g, f = t.length + (g + 1) := ⟨f - t.length - 1, by omega⟩
  rw [blk_letters s kn (g + 1) dep most t [] a false hc hs hl (by simpa using h61)]
  have hne : t ≠ [] := fun e => by rw [e] at h1; simp at h1
  rw [decide_eq_true hne, List.nil_append, Bool.false_or, blk]
  by_cases h0 : s.length ≤ a + t.length
  · rw [if_pos h0]; rfl
  · have h2 := he.resolve_left h0
    rw [if_neg h0, if_neg (by omega), if_neg (by omega), if_neg (by omega), if_pos h2]; rfl
/-- Brackets at the end of a text. -/
theorem blk_rep {s : List UInt8} {kn : List (UInt8 × List UInt8)} {f dep most a a1 most1 c : Nat} {part : List UInt8} (ha : a < s.length) (h40 : (s.getD a 0).toNat = 40) (hp : blk s kn (f + 1) (a + 1) [] false (dep + 1) (max most (dep + 1)) = some (part, a1, most1)) (hl : s.length = a1 + 2) (h41 : (s.getD a1 0).toNat = 41) (hd : (s.getD (a1 + 1) 0).toNat = 48 + c) (hc : 2 ≤ c ∧ c ≤ 9) : blk s kn (f + 2) a [] false dep most = some ((Lib.repeatL part c).take 61, s.length, most1) := by
  rw [blk, if_neg (by omega), if_pos h40, hp]
  simp only
  rw [if_pos ⟨by omega, h41, by omega, by omega⟩, blk, if_pos (by omega), hd, show 48 + c - 48 = c by omega, hl]
  simp [List.take_take]
theorem prog_touch {u : List UInt8} (hu : CallsL u) (h1 : 1 ≤ u.length) (h60 : u.length ≤ 60) : progL u = some (u, [], 0) := by
  have hb := blk_word (s := u) (kn := []) (f := 1000) (dep := 0) (most := 0) (a := 0) hu h1 (fun i _ => by rw [Nat.zero_add]) (by omega) (by omega) (by omega) (.inl (by omega))
  have hne : ¬ (0 + 1 < u.length ∧ (u.getD (0 + 1) 0).toNat = 61) := fun hh => by
    have := calls_getD hu hh.1; omega
  rw [progL, if_pos (by omega), show (1000 : Nat) = 999 + 1 from rfl, defs, if_neg hne, hb]
  simp
/-- A part in brackets with its digit. -/
theorem prog_part {v : List UInt8} {c : Nat} (hv : CallsL v) (h1 : 1 ≤ v.length) (h60 : v.length ≤ 60) (hc : 2 ≤ c ∧ c ≤ 9) : ∃ m, progL ([40] ++ v ++ [41] ++ [UInt8.ofNat (48 + c)]) = some ((Lib.repeatL v c).take 61, [], m) := by
  have hd : (UInt8.ofNat (48 + c)).toNat = 48 + c := u8_nat (by omega)
  generalize UInt8.ofNat (48 + c) = d at hd
  have es : [40] ++ v ++ [41] ++ [d] = 40 :: (v ++ [41, d]) := by simp
  rw [es]
  have hsl : (40 :: (v ++ [41, d])).length = v.length + 3 := by simp
  have e0 : (40 :: (v ++ [41, d])).getD 0 0 = 40 := rfl
  have ev : ∀ i < v.length, (40 :: (v ++ [41, d])).getD (1 + i) 0 = v.getD i 0 := fun i hi => by rw [one_getD, off_left _ _ _ hi]
  have e41 : (40 :: (v ++ [41, d])).getD (1 + v.length) 0 = 41 := by rw [one_getD]; exact off_getD v [41, d] 0
  have e42 : (40 :: (v ++ [41, d])).getD (1 + v.length + 1) 0 = d := by rw [Nat.add_assoc, one_getD]; exact off_getD v [41, d] 1
  generalize 40 :: (v ++ [41, d]) = s at *
  have hv0 := calls_getD hv (i := 0) (by omega)
  have ev0 := ev 0 (by omega)
  have hb := blk_word (s := s) (kn := []) (f := 998 + 1) (dep := 0 + 1) (most := max 0 (0 + 1)) (a := 0 + 1) hv h1 (fun i hi => by rw [Nat.zero_add]; exact ev i hi) (by omega) (by omega) (by omega) (.inr (.inl (by rw [Nat.zero_add, e41]; rfl)))
  have hr := blk_rep (c := c) (by omega) (by rw [e0]; rfl) hb (by omega) (by rw [Nat.zero_add, e41]; rfl) (by rw [Nat.zero_add, e42, hd]) hc
  refine ⟨max 0 (0 + 1), ?_⟩
  rw [progL, if_pos (by omega), show (1000 : Nat) = 999 + 1 from rfl, defs, if_neg (fun hh => by rw [show 0 + 1 = 1 + 0 from rfl, ev0] at hh; omega), show (1000 : Nat) = 998 + 2 from rfl, hr]
  simp only
  rw [if_pos trivial]
/-- A definition that is used three times. -/
theorem prog_def {t : List UInt8} (ht : CallsL t) (h1 : 1 ≤ t.length) (h20 : t.length ≤ 20) : ∃ kn m, progL ([65, 61] ++ t ++ [59, 40, 65, 41, 51]) = some (t ++ t ++ t, kn, m) := by
  have es : [65, 61] ++ t ++ [59, 40, 65, 41, 51] = 65 :: 61 :: (t ++ [59, 40, 65, 41, 51]) := by simp
  rw [es]
  have hsl : (65 :: 61 :: (t ++ [59, 40, 65, 41, 51])).length = t.length + 7 := by simp
  have e0 : (65 :: 61 :: (t ++ [59, 40, 65, 41, 51])).getD 0 0 = 65 := rfl
  have e1 : (65 :: 61 :: (t ++ [59, 40, 65, 41, 51])).getD 1 0 = 61 := rfl
  have two : ∀ i, (65 :: 61 :: (t ++ [59, 40, 65, 41, 51])).getD (2 + i) 0 = (t ++ [59, 40, 65, 41, 51]).getD i 0 := fun i => by rw [Nat.add_comm]; rfl
  have ev : ∀ i < t.length, (65 :: 61 :: (t ++ [59, 40, 65, 41, 51])).getD (2 + i) 0 = t.getD i 0 := fun i hi => by rw [two, off_left _ _ _ hi]
  have ea : ∀ i, (65 :: 61 :: (t ++ [59, 40, 65, 41, 51])).getD (2 + t.length + i) 0 = ([59, 40, 65, 41, 51] : List UInt8).getD i 0 := fun i => by rw [Nat.add_assoc, two]; exact off_getD t _ i
  have a0 := ea 0
  have a1 := ea 1
  have a2 := ea 2
  have a3 := ea 3
  have a4 := ea 4
  generalize 65 :: 61 :: (t ++ [59, 40, 65, 41, 51]) = s at *
  clear two ea es
  generalize hq : 2 + t.length = q at *
  have a0' : (s.getD q 0).toNat = 59 := by rw [a0]; rfl
  have a1' : (s.getD (q + 1) 0).toNat = 40 := by rw [a1]; rfl
  have a2' : s.getD (q + 1 + 1) 0 = 65 := by rw [Nat.add_assoc, a2]; rfl
  have a3' : (s.getD (q + 1 + 1 + 1) 0).toNat = 41 := by rw [show q + 1 + 1 + 1 = q + 3 by omega, a3]; rfl
  have a4' : (s.getD (q + 1 + 1 + 1 + 1) 0).toNat = 48 + 3 := by rw [show q + 1 + 1 + 1 + 1 = q + 4 by omega, a4]; rfl
  have hb := blk_word (s := s) (kn := []) (f := 1000) (dep := 0) (most := 0) (a := 0 + 2) ht h1 (fun i hi => by rw [Nat.zero_add]; exact ev i hi) (by omega) (by omega) (by omega) (.inr (.inr (by rw [Nat.zero_add, hq, a0'])))
  have e65 : (65 : UInt8).toNat = 65 := rfl
  have hin : blk s [(65, t)] (998 + 1) (q + 1 + 1) [] false (0 + 1) (max 0 (0 + 1)) = some (t, q + 1 + 1 + 1, max 0 (0 + 1)) := by
    rw [blk, if_neg (by omega), a2', if_neg (by omega), if_pos (by omega)]
    have hlk : ([(65, t)] : List (UInt8 × List UInt8)).lookup 65 = some t := by simp [List.lookup]
    rw [hlk]
    simp only
    rw [List.nil_append, List.take_of_length_le (by omega), show (998 : Nat) = 997 + 1 from rfl, blk, if_neg (by omega), if_neg (by omega), if_neg (by omega), if_neg (by omega), if_pos (.inl a3')]
    rfl
  have hr := blk_rep (c := 3) (by omega) a1' hin (by omega) a3' a4' (by omega)
  have e3 : (Lib.repeatL t 3).take 61 = t ++ t ++ t := by
    have : Lib.repeatL t 3 = t ++ t ++ t := by simp [Lib.repeatL]
    rw [this]
    exact List.take_of_length_le (by rw [List.length_append, List.length_append]; omega)
  rw [e3] at hr
  refine ⟨[(65, t)], max 0 (0 + 1), ?_⟩
  rw [progL, if_pos (by omega), show (1000 : Nat) = 999 + 1 from rfl, defs, if_pos ⟨by omega, by rw [Nat.zero_add, e1]; rfl⟩, e0, if_pos ⟨by omega, by omega, rfl⟩, hb]
  simp only
  rw [Nat.zero_add, hq, if_pos ⟨by omega, a0'⟩, show (999 : Nat) = 998 + 1 from rfl, defs, if_neg (fun hh => by rw [a2'] at hh; omega), List.nil_append, show (1000 : Nat) = 998 + 2 from rfl, hr]
  simp only
  rw [if_pos trivial]
end Go.Proofs.YtnbnofmnbopknaaDoor
