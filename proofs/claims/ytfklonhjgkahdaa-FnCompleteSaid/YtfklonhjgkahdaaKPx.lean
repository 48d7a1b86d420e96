/-
  Plain lists: the truth of leads that follow one another. No program.
  Conditions: none.
-/
import Derived.Test.YtfklonhjgkahdaaKA34
import Derived.Test.YtfklonhjgkahdaaKPs
import Derived.Test.YtfklonhjgkahdaaKPt
set_option linter.unusedSimpArgs false
set_option linter.unusedVariables false
set_option linter.defProp false
namespace Go.Proofs.Ytfklonhjgkahdaa
open Go
/-- The lead from rounds. -/
def leadR (n : Nat) (cs : List Bs) : List Bs := rowsU (roundsL n) cs cs.length
theorem leadR_len (n : Nat) (cs : List Bs) : (leadR n cs).length = cs.length := rowsU_len _ _ _
theorem leadR_rows {n : Nat} (hn : 3 ≤ n ∧ n ≤ 8) (cs : List Bs) : ∀ r ∈ leadR n cs, IsRow r ∧ r.length = n := fun r hr => by
  obtain ⟨i, _, rfl⟩ := List.mem_map.1 hr
  exact under_row hn _
theorem rowsU_times {l : Bs} (h : IsRow l) (cs : List Bs) (k : Nat) : rowsU l cs k = (rowsU (roundsL l.length) cs k).map (timesL l) := by
  unfold rowsU
  rw [List.map_map]
  exact List.map_congr_left fun i _ => under_times _ h
/-- The rows f such that the rows of A and those of B behind f meet. -/
def falseL (A B : List Bs) : List Bs := A.flatMap fun r => B.map fun s => timesL r (turnL s)
theorem falseL_mem (A B : List Bs) (f : Bs) : f ∈ falseL A B ↔ ∃ r ∈ A, ∃ s ∈ B, f = timesL r (turnL s) := by
  unfold falseL
  simp only [List.mem_flatMap, List.mem_map]
  exact ⟨fun ⟨r, hr, s, hs, e⟩ => ⟨r, hr, s, hs, e.symm⟩, fun ⟨r, hr, s, hs, e⟩ => ⟨r, hr, s, hs, e.symm⟩⟩
section
variable {n : Nat} {A B : List Bs}
theorem div_iff {f r s : Bs} (hf : IsRow f) (hr : IsRow r) (hs : IsRow s) (lf : f.length = n) (lr : r.length = n) (ls : s.length = n) : f = timesL r (turnL s) ↔ timesL f s = r := by
  have ht := turnL_row hs
  have lt := turnL_len s
  constructor
  · intro e
    rw [e, timesL_assoc r hs (by omega), turn_times hs, ls, ← lr]
    exact times_rounds hr.1.2
  · intro e
    rw [← e, timesL_assoc f ht (by omega), times_turn hs, ls, ← lf]
    exact (times_rounds hf.1.2).symm
theorem quot_iff {g h r s : Bs} (hg : IsRow g) (hh : IsRow h) (hr : IsRow r) (hs : IsRow s) (lg : g.length = n) (lh : h.length = n) (lr : r.length = n) (ls : s.length = n) : timesL (turnL g) h = timesL r (turnL s) ↔ timesL g r = timesL h s := by
  have ht := turnL_row hg
  have lt := turnL_len g
  have hq := timesL_row ht hh (by omega)
  have lq : (timesL (turnL g) h).length = n := by rw [timesL_len, lh]
  rw [div_iff hq hr hs lq lr ls]
  have e1 : timesL g (timesL (turnL g) h) = h := by
    rw [← timesL_assoc g hh (by omega), times_turn hg, lg, ← lh]
    exact rounds_times hh
  have e2 : timesL (timesL (turnL g) h) s = timesL (turnL g) (timesL h s) := timesL_assoc _ hs (by omega)
  constructor
  · intro e
    rw [← e, e2, ← timesL_assoc g (timesL_row hh hs (by omega)) (by rw [timesL_len]; omega), times_turn hg, lg, ← ls, ← timesL_len h s]
    exact rounds_times (timesL_row hh hs (by omega))
  · intro e
    rw [e2, ← e, ← timesL_assoc _ hr (by omega), turn_times hg, lg, ← lr]
    exact rounds_times hr
end
/-- A touch of leads is true: each lead is, and no two heads clash. -/
theorem truth_iff {n : Nat} (hn : 3 ≤ n ∧ n ≤ 8) (cs : List Bs) (hs : List Bs) (hr : ∀ r ∈ hs, IsRow r ∧ r.length = n) (h0 : hs ≠ []) : (leadsL cs hs).Nodup ↔ (leadR n cs).Nodup ∧ hs.Pairwise fun g h => timesL (turnL g) h ∉ falseL (leadR n cs) (leadR n cs) := by
  unfold leadsL List.Nodup
  rw [List.pairwise_flatMap]
  have hL := leadR_rows hn cs
  have e : ∀ h ∈ hs, rowsU h cs cs.length = (leadR n cs).map (timesL h) := fun h hh => by
    rw [rowsU_times (hr h hh).1, (hr h hh).2]; rfl
  refine and_congr ?_ ?_
  · obtain ⟨h, hh⟩ : ∃ h, h ∈ hs := List.exists_mem_of_ne_nil hs h0
    have key : ∀ h ∈ hs, (rowsU h cs cs.length).Pairwise (fun a b => a ≠ b) ↔ (leadR n cs).Pairwise (fun a b => a ≠ b) := fun h hh => by
      rw [e h hh, List.pairwise_map]
      refine ⟨fun hp => ?_, fun hp => ?_⟩
      · exact hp.imp fun hne e => hne (by rw [e])
      · refine List.Pairwise.imp_of_mem ?_ hp
        intro a b ha hb hne e
        exact hne (times_cancel (hr h hh).1 (hL a ha).1 (hL b hb).1 (by rw [(hr h hh).2, (hL a ha).2]) (by rw [(hr h hh).2, (hL b hb).2]) e)
    exact ⟨fun hall => (key h hh).1 (hall h hh), fun hp h hh => (key h hh).2 hp⟩
  · have key : ∀ g ∈ hs, ∀ h ∈ hs, (∀ x ∈ rowsU g cs cs.length, ∀ y ∈ rowsU h cs cs.length, x ≠ y) ↔ timesL (turnL g) h ∉ falseL (leadR n cs) (leadR n cs) := fun g hg h hh => by
      rw [e g hg, e h hh, falseL_mem]
      constructor
      · rintro hne ⟨r, h1, s, h2, e⟩
        exact hne _ (List.mem_map.2 ⟨r, h1, rfl⟩) _ (List.mem_map.2 ⟨s, h2, rfl⟩) ((quot_iff (hr g hg).1 (hr h hh).1 (hL r h1).1 (hL s h2).1 (hr g hg).2 (hr h hh).2 (hL r h1).2 (hL s h2).2).1 e)
      · intro hne x hx y hy e
        obtain ⟨r, h1, rfl⟩ := List.mem_map.1 hx
        obtain ⟨s, h2, rfl⟩ := List.mem_map.1 hy
        exact hne ⟨r, h1, s, h2, (quot_iff (hr g hg).1 (hr h hh).1 (hL r h1).1 (hL s h2).1 (hr g hg).2 (hr h hh).2 (hL r h1).2 (hL s h2).2).2 e⟩
    constructor
    · exact fun h => List.Pairwise.imp_of_mem (fun ha hb hx => (key _ ha _ hb).1 hx) h
    · exact fun h => List.Pairwise.imp_of_mem (fun ha hb hx => (key _ ha _ hb).2 hx) h
end Go.Proofs.Ytfklonhjgkahdaa
