/-
  Plain lists: all changes of a stage. No program.
  Conditions: none.
-/
import Derived.Test.YtfklonhjgkahdaaKPd
set_option linter.unusedSimpArgs false
set_option linter.unusedVariables false
set_option linter.defProp false
namespace Go.Proofs.Ytfklonhjgkahdaa
open Go
/-- All ways to go on from place p, within f steps. -/
def fromG (n : Nat) : Nat → Nat → List (List Int)
  | 0, _ => [[]]
  | f + 1, p => if n < p then [[]] else (fromG n f (p + 1)).map (fun r => (p : Int) :: r) ++ (if p < n then fromG n f (p + 2) else [])
theorem fromG_len (n : Nat) : ∀ f p, (fromG n f p).length ≤ 2 ^ f := by
  intro f
  induction f with
  | zero => intro p; simp [fromG]
  | succ f ih =>
    intro p
    have h1 := ih (p + 1)
    have h2 := ih (p + 2)
    have h3 : 1 ≤ 2 ^ f := Nat.one_le_two_pow
    unfold fromG
    split
    · simp; omega
    · rw [List.length_append, List.length_map, Nat.pow_succ]
      split
      · omega
      · simp; omega
theorem fromG_mem (n : Nat) : ∀ f p, 1 ≤ p → ∀ l ∈ fromG n f p, l.length ≤ f ∧ ∀ x ∈ l, (p : Int) ≤ x ∧ x ≤ n := by
  intro f
  induction f with
  | zero => intro p _ l hl; simp [fromG] at hl; subst hl; simp
  | succ f ih =>
    intro p hp l hl
    unfold fromG at hl
    split at hl
    · simp at hl; subst hl; simp
    · rename_i hnp
      rcases List.mem_append.1 hl with h | h
      · obtain ⟨r, hr, rfl⟩ := List.mem_map.1 h
        have := ih (p + 1) (by omega) r hr
        refine ⟨by simp; omega, fun x hx => ?_⟩
        rcases List.mem_cons.1 hx with rfl | hx
        · omega
        · have := this.2 x hx; omega
      · split at h
        · have := ih (p + 2) (by omega) l h
          exact ⟨by omega, fun x hx => by have := this.2 x hx; omega⟩
        · simp at h
/-- The change of some places. -/
def ofL (l : List Int) : List UInt8 := if l = [] then [45] else l.map fun p => UInt8.ofNat (48 + p.toNat)
/-- Where s goes among the first k of a list, from behind. -/
def insAt (s : List UInt8) (l : List (List UInt8)) : Nat → Nat
  | 0 => 0
  | k + 1 => if Op.bytesLess s (l.getD k []) then insAt s l k else k + 1
theorem insAt_le (s : List UInt8) (l : List (List UInt8)) : ∀ k, insAt s l k ≤ k := by
  intro k
  induction k with
  | zero => exact Nat.le_refl _
  | succ k ih => unfold insAt; split <;> omega
def insL (s : List UInt8) (l : List (List UInt8)) : List (List UInt8) := l.take (insAt s l l.length) ++ s :: l.drop (insAt s l l.length)
theorem insL_len (s : List UInt8) (l : List (List UInt8)) : (insL s l).length = l.length + 1 := by
  have := insAt_le s l l.length
  simp [insL]; omega
/-- The changes among the first k ways. -/
def allGo (n : Nat) (ws : List (List Int)) : List (List UInt8) := ws.foldl (fun out l => if IsChange n (ofL l) then insL (ofL l) out else out) []
theorem allGo_len (n : Nat) (ws : List (List Int)) : (allGo n ws).length ≤ ws.length := by
  have key : ∀ (ws : List (List Int)) (out : List (List UInt8)), (ws.foldl (fun out l => if IsChange n (ofL l) then insL (ofL l) out else out) out).length ≤ out.length + ws.length := by
    intro ws
    induction ws with
    | nil => intro out; simp
    | cons l ws ih =>
      intro out
      rw [List.foldl_cons]
      have := ih (if IsChange n (ofL l) then insL (ofL l) out else out)
      simp only [List.length_cons]
      split at this
      · rw [insL_len] at this; rename_i hc; rw [if_pos hc]; omega
      · rename_i hc; rw [if_neg hc]; omega
  have := key ws []
  simp only [List.length_nil, Nat.zero_add] at this
  exact this
theorem allGo_succ (n : Nat) (ws : List (List Int)) (k : Nat) (h : k < ws.length) : allGo n (ws.take (k + 1)) = if IsChange n (ofL (ws.getD k [])) then insL (ofL (ws.getD k [])) (allGo n (ws.take k)) else allGo n (ws.take k) := by
  unfold allGo
  rw [List.take_add_one, List.getElem?_eq_getElem h, List.getD_eq_getElem?_getD, List.getElem?_eq_getElem h, Option.toList_some, List.foldl_append]
  rfl
/-- All changes of a stage, in increasing order. -/
def allL (n : Nat) : List (List UInt8) := allGo n (fromG n n 1)
theorem allL_some : ∀ n < 9, 3 ≤ n → 0 < (allL n).length ∧ (allL n).length ≤ 60 := by decide +kernel
theorem allL_change : ∀ n < 9, 3 ≤ n → ∀ c ∈ allL n, IsChange n c := by decide +kernel
end Go.Proofs.Ytfklonhjgkahdaa
