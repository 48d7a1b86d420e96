/-
  Plain lists: the truth of leads that follow one another. No program.
  Conditions: none.
-/
import Derived.Test.YthopbkemkfjebaaGreatKA34
import Derived.Test.YthopbkemkfjebaaGreatKPs
import Derived.Test.YthopbkemkfjebaaGreatKPt
set_option linter.unusedSimpArgs false
set_option linter.unusedVariables false
set_option linter.defProp false
namespace Go.Proofs.YthopbkemkfjebaaGreat
open Go
/-- The lead from rounds. -/
def leadR (n : Nat) (cs : List Bs) : List Bs := rowsU (roundsL n) cs cs.length
theorem leadR_len (n : Nat) (cs : List Bs) : (leadR n cs).length = cs.length := rowsU_len _ _ _
theorem leadR_rows {n : Nat} (hn : 3 ≤ n ∧ n ≤ 8) (cs : List Bs) : ∀ r ∈ leadR n cs, IsRow r ∧ r.length = n := fun r hr => by
  obtain ⟨i, _, rfl⟩ := List.mem_map.1 hr
  exact under_row hn _
theorem rowsU_times {l : Bs} (h : IsRow l) (cs : List Bs) (k : Nat) : rowsU l cs k = (rowsU (roundsL l.length) cs k).map (timesL l) := by
  unfold rowsU
  rw [List.map_map]
  exact List.map_congr_left fun i _ => under_times _ h
/-- The rows f such that the rows of A and those of B behind f meet. -/
def falseL (A B : List Bs) : List Bs := A.flatMap fun r => B.map fun s => timesL r (turnL s)
theorem falseL_mem (A B : List Bs) (f : Bs) : f ∈ falseL A B ↔ ∃ r ∈ A, ∃ s ∈ B, f = timesL r (turnL s) := by
  unfold falseL
  simp only [List.mem_flatMap, List.mem_map]
  exact ⟨fun ⟨r, hr, s, hs, e⟩ => ⟨r, hr, s, hs, e.symm⟩, fun ⟨r, hr, s, hs, e⟩ => ⟨r, hr, s, hs, e.symm⟩⟩
section
variable {n : Nat} {A B : List Bs}
theorem div_iff {f r s : Bs} (hf : IsRow f) (hr : IsRow r) (hs : IsRow s) (lf : f.length = n) (lr : r.length = n) (ls : s.length = n) : f = timesL r (turnL s) ↔ timesL f s = r := by
  have ht := turnL_row hs
  have lt := turnL_len s
  constructor
  · intro e
    rw [e, timesL_assoc r hs (by omega), turn_times hs, ls, ← lr]
    exact times_rounds hr.1.2
  · intro e
    rw [← e, timesL_assoc f ht (by omega), times_turn hs, ls, ← lf]
    exact (times_rounds hf.1.2).symm
/-- Two leads meet, told by a set of rows. -/
theorem meet_iff (hA : ∀ r ∈ A, IsRow r ∧ r.length = n) (hB : ∀ r ∈ B, IsRow r ∧ r.length = n) {f : Bs} (hf : IsRow f) (lf : f.length = n) : f ∈ falseL A B ↔ ∃ r ∈ A, r ∈ B.map (timesL f) := by
  rw [falseL_mem]
  constructor
  · rintro ⟨r, hr, s, hs, e⟩
    exact ⟨r, hr, List.mem_map.2 ⟨s, hs, (div_iff hf (hA r hr).1 (hB s hs).1 lf (hA r hr).2 (hB s hs).2).1 e⟩⟩
  · rintro ⟨r, hr, h⟩
    obtain ⟨s, hs, e⟩ := List.mem_map.1 h
    exact ⟨r, hr, s, hs, (div_iff hf (hA r hr).1 (hB s hs).1 lf (hA r hr).2 (hB s hs).2).2 e⟩
theorem quot_iff {g h r s : Bs} (hg : IsRow g) (hh : IsRow h) (hr : IsRow r) (hs : IsRow s) (lg : g.length = n) (lh : h.length = n) (lr : r.length = n) (ls : s.length = n) : timesL (turnL g) h = timesL r (turnL s) ↔ timesL g r = timesL h s := by
  have ht := turnL_row hg
  have lt := turnL_len g
  have hq := timesL_row ht hh (by omega)
  have lq : (timesL (turnL g) h).length = n := by rw [timesL_len, lh]
  rw [div_iff hq hr hs lq lr ls]
  have e1 : timesL g (timesL (turnL g) h) = h := by
    rw [← timesL_assoc g hh (by omega), times_turn hg, lg, ← lh]
    exact rounds_times hh
  have e2 : timesL (timesL (turnL g) h) s = timesL (turnL g) (timesL h s) := timesL_assoc _ hs (by omega)
  constructor
  · intro e
    rw [← e, e2, ← timesL_assoc g (timesL_row hh hs (by omega)) (by rw [timesL_len]; omega), times_turn hg, lg, ← ls, ← timesL_len h s]
    exact rounds_times (timesL_row hh hs (by omega))
  · intro e
    rw [e2, ← e, ← timesL_assoc _ hr (by omega), turn_times hg, lg, ← lr]
    exact rounds_times hr
end
end Go.Proofs.YthopbkemkfjebaaGreat
