/-
  Programs of calls: what a block means. No program.
  Conditions: none.
-/
import Derived.Test.YtnbnofmnbopknaaDoorPb
import Derived.Lib.Repeat
set_option linter.unusedSimpArgs false
set_option linter.unusedVariables false
set_option linter.defProp false
namespace Go.Proofs.YtnbnofmnbopknaaDoor
open Go
/-- What a block from place at on means (f: more than the bytes that are left): its calls, cut off, the place behind it, the greatest depth; none where it is no block. -/
def blk (s : List UInt8) (kn : List (UInt8 × List UInt8)) : Nat → Nat → List UInt8 → Bool → Nat → Nat → Option (List UInt8 × Nat × Nat)
  | 0, _, _, _, _, _ => none
  | f + 1, a, out, some', dep, most =>
    if s.length ≤ a then (if some' then some (out, a, most) else none) else
    if (s.getD a 0).toNat = 40 then
      match blk s kn f (a + 1) [] false (dep + 1) (max most (dep + 1)) with
      | none => none
      | some (part, a1, most1) =>
        if a1 + 1 < s.length ∧ (s.getD a1 0).toNat = 41 ∧ 50 ≤ (s.getD (a1 + 1) 0).toNat ∧ (s.getD (a1 + 1) 0).toNat ≤ 57 then
          blk s kn f (a1 + 2) ((out ++ (Lib.repeatL part ((s.getD (a1 + 1) 0).toNat - 48)).take 61).take 61) true dep most1
        else none
    else if 65 ≤ (s.getD a 0).toNat ∧ (s.getD a 0).toNat ≤ 90 then
      match kn.lookup (s.getD a 0) with
      | none => none
      | some part => blk s kn f (a + 1) ((out ++ part).take 61) true dep most
    else if (s.getD a 0).toNat = 112 ∨ (s.getD a 0).toNat = 98 ∨ (s.getD a 0).toNat = 115 then blk s kn f (a + 1) ((out ++ [s.getD a 0]).take 61) true dep most
    else if (s.getD a 0).toNat = 41 ∨ (s.getD a 0).toNat = 59 then (if some' then some (out, a, most) else none)
    else none
theorem blk_at {s : List UInt8} {kn : List (UInt8 × List UInt8)} : ∀ {f a : Nat} {out : List UInt8} {q : Bool} {dep most : Nat} {r : List UInt8 × Nat × Nat}, a ≤ s.length → blk s kn f a out q dep most = some r → a ≤ r.2.1 ∧ r.2.1 ≤ s.length := by
  intro f
  induction f with
  | zero => intro a out q dep most r _ h; cases h
  | succ f ih =>
    intro a out q dep most r ha h
    rw [blk] at h
    split at h
    · split at h
      · cases h; exact ⟨Nat.le_refl _, ha⟩
      · cases h
    · split at h
      · split at h
        · cases h
        · rename_i part a1 most1 h1
          split at h
          · have hi := ih (by omega) h1
            simp only at hi
            have := ih (by omega) h
            omega
          · cases h
      · split at h
        · split at h
          · cases h
          · have := ih (by omega) h; omega
        · split at h
          · have := ih (by omega) h; omega
          · split at h
            · split at h
              · cases h; exact ⟨Nat.le_refl _, ha⟩
              · cases h
            · cases h
/-- A program's definitions and its last block, from place a on. -/
def defs (s : List UInt8) : Nat → Nat → List (UInt8 × List UInt8) → Nat → Option (List UInt8 × List (UInt8 × List UInt8) × Nat)
  | 0, _, _, _ => none
  | f + 1, a, kn, most =>
    if a + 1 < s.length ∧ (s.getD (a + 1) 0).toNat = 61 then
      if 65 ≤ (s.getD a 0).toNat ∧ (s.getD a 0).toNat ≤ 90 ∧ kn.lookup (s.getD a 0) = none then
        match blk s kn 1000 (a + 2) [] false 0 most with
        | none => none
        | some (part, a1, most1) => if a1 < s.length ∧ (s.getD a1 0).toNat = 59 then defs s f (a1 + 1) (kn ++ [(s.getD a 0, part)]) most1 else none
      else none
    else match blk s kn 1000 a [] false 0 most with
      | none => none
      | some (out, a1, most1) => if a1 = s.length then some (out, kn, most1) else none
/-- What a program means. -/
def progL (s : List UInt8) : Option (List UInt8 × List (UInt8 × List UInt8) × Nat) := if s.length ≤ 200 then defs s 1000 0 [] 0 else none
theorem blk_eq {s : List UInt8} {kn : List (UInt8 × List UInt8)} {f a dep most : Nat} (h1 : a + 1 < s.length) (h2 : (s.getD (a + 1) 0).toNat = 61) (h3 : ¬ (65 ≤ (s.getD a 0).toNat ∧ (s.getD a 0).toNat ≤ 90)) : blk s kn f a [] false dep most = none := by
  have step (g : Nat) (out : List UInt8) (q : Bool) (d m : Nat) : blk s kn g (a + 1) out q d m = none := by
    cases g with
    | zero => rfl
    | succ g =>
      rw [blk, if_neg (by omega), if_neg (by omega), if_neg (by omega), if_neg (by omega), if_neg (by omega)]
  cases f with
  | zero => rfl
  | succ f =>
    rw [blk, if_neg (by omega)]
    split
    · rw [step]
    · split
      · rw [step]
      · split
        · rfl
        · rfl
end Go.Proofs.YtnbnofmnbopknaaDoor
