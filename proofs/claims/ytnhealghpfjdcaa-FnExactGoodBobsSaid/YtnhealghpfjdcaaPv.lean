/-
  Plain lists: the rows that some rows generate. No program.
  Conditions: none.
-/
import Derived.Test.YtnhealghpfjdcaaPs
import Derived.Test.YtnhealghpfjdcaaPd
set_option linter.unusedSimpArgs false
set_option linter.unusedVariables false
set_option linter.defProp false
namespace Go.Proofs.Ytnhealghpfjdcaa
open Go
/-- One more row, unless it is there. -/
def put1 (l : List Bs) (x : Bs) : List Bs := if x ∈ l then l else l ++ [x]
theorem put1_mem (l : List Bs) (x y : Bs) : y ∈ put1 l x ↔ y ∈ l ∨ y = x := by
  unfold put1
  split
  · rename_i h
    exact ⟨.inl, fun hh => hh.elim id fun e => e ▸ h⟩
  · simp
theorem put1_nodup {l : List Bs} (x : Bs) (h : l.Nodup) : (put1 l x).Nodup := by
  unfold put1
  split
  · exact h
  · rename_i hx
    exact List.nodup_append.2 ⟨h, by simp, fun a ha b hb e => hx (by rw [List.mem_singleton.1 hb] at e; exact e ▸ ha)⟩
theorem put1_len (l : List Bs) (x : Bs) : l.length ≤ (put1 l x).length := by
  unfold put1; split <;> simp
theorem put1_len2 (l : List Bs) (x : Bs) : (put1 l x).length ≤ l.length + 1 := by
  unfold put1; split <;> simp
theorem put1_pre (l : List Bs) (x : Bs) : l <+: put1 l x := by
  unfold put1; split
  · exact List.prefix_refl _
  · exact List.prefix_append _ _
def grow1 (gens : List Bs) (l : List Bs) (a : Bs) : List Bs := gens.foldl (fun l g => put1 l (timesL a g)) l
theorem grow1_pre (gens : List Bs) : ∀ (l : List Bs) (a : Bs), l <+: grow1 gens l a := by
  unfold grow1
  induction gens with
  | nil => intro l a; exact List.prefix_refl _
  | cons g gens ih => intro l a; exact List.IsPrefix.trans (put1_pre l _) (ih _ a)
theorem grow1_len (gens : List Bs) (l : List Bs) (a : Bs) : l.length ≤ (grow1 gens l a).length := (grow1_pre gens l a).length_le
theorem grow1_len2 (gens : List Bs) : ∀ (l : List Bs) (a : Bs), (grow1 gens l a).length ≤ l.length + gens.length := by
  unfold grow1
  induction gens with
  | nil => intro l a; simp
  | cons g gens ih => intro l a; have := ih (put1 l (timesL a g)) a; have := put1_len2 l (timesL a g); simp only [List.foldl_cons, List.length_cons]; omega
theorem grow1_mem (gens : List Bs) : ∀ (l : List Bs) (a y : Bs), y ∈ grow1 gens l a ↔ y ∈ l ∨ ∃ g ∈ gens, y = timesL a g := by
  unfold grow1
  induction gens with
  | nil => intro l a y; simp
  | cons g gens ih =>
    intro l a y
    rw [List.foldl_cons, ih, put1_mem]
    simp only [List.mem_cons, exists_eq_or_imp, or_assoc]
theorem grow1_nodup (gens : List Bs) : ∀ (l : List Bs) (a : Bs), l.Nodup → (grow1 gens l a).Nodup := by
  unfold grow1
  induction gens with
  | nil => intro l a h; exact h
  | cons g gens ih => intro l a h; exact ih _ a (put1_nodup _ h)
theorem grow1_succ (gens : List Bs) (l : List Bs) (a : Bs) (k : Nat) (h : k < gens.length) : grow1 (gens.take (k + 1)) l a = put1 (grow1 (gens.take k) l a) (timesL a (gens.getD k [])) := by
  unfold grow1
  rw [List.take_add_one, List.getElem?_eq_getElem h, List.getD_eq_getElem?_getD, List.getElem?_eq_getElem h, Option.toList_some, List.foldl_append]
  rfl
theorem grow1_mono (gens : List Bs) (l : List Bs) (a : Bs) (k : Nat) : (grow1 (gens.take k) l a).length ≤ (grow1 gens l a).length := by
  have : grow1 gens l a = grow1 (gens.drop k) (grow1 (gens.take k) l a) a := by
    unfold grow1
    rw [← List.foldl_append, List.take_append_drop]
  rw [this]
  exact grow1_len _ _ _
theorem pre_get {C D : List Bs} (h : C <+: D) {i : Nat} (hi : i < C.length) : D.getD i [] = C.getD i [] := by
  obtain ⟨t, rfl⟩ := h
  rw [List.getD_eq_getElem?_getD, List.getD_eq_getElem?_getD, List.getElem?_append_left hi]
/-- The list behind i rounds. -/
def clo (gens : List Bs) (e : Bs) : Nat → List Bs
  | 0 => [e]
  | i + 1 => match (clo gens e i)[i]? with
    | none => clo gens e i
    | some a => grow1 gens (clo gens e i) a
theorem clo_succ {gens : List Bs} {e : Bs} {i : Nat} (h : i < (clo gens e i).length) : clo gens e (i + 1) = grow1 gens (clo gens e i) ((clo gens e i).getD i []) := by
  rw [clo, List.getElem?_eq_getElem h, List.getD_eq_getElem?_getD, List.getElem?_eq_getElem h]
  rfl
theorem clo_stop {gens : List Bs} {e : Bs} {i : Nat} (h : (clo gens e i).length ≤ i) : ∀ j, i ≤ j → clo gens e j = clo gens e i := by
  intro j hj
  induction j with
  | zero => obtain rfl : i = 0 := by omega
            rfl
  | succ j ih =>
    by_cases he : i = j + 1
    · rw [he]
    · have hi := ih (by omega)
      rw [clo, List.getElem?_eq_none (by rw [hi]; omega), ← hi]
theorem clo_pre (gens : List Bs) (e : Bs) (i : Nat) : clo gens e i <+: clo gens e (i + 1) := by
  by_cases h : i < (clo gens e i).length
  · rw [clo_succ h]; exact grow1_pre _ _ _
  · rw [clo_stop (i := i) (by omega) (i + 1) (by omega)]; exact List.prefix_refl _
theorem clo_mono (gens : List Bs) (e : Bs) (i j : Nat) (h : i ≤ j) : clo gens e i <+: clo gens e j := by
  induction j with
  | zero => obtain rfl : i = 0 := by omega
            exact List.prefix_refl _
  | succ j ih =>
    by_cases he : i = j + 1
    · rw [he]; exact List.prefix_refl _
    · exact List.IsPrefix.trans (ih (by omega)) (clo_pre gens e j)
theorem clo_nodup (gens : List Bs) (e : Bs) (i : Nat) : (clo gens e i).Nodup := by
  induction i with
  | zero => simp [clo]
  | succ i ih =>
    by_cases h : i < (clo gens e i).length
    · rw [clo_succ h]; exact grow1_nodup _ _ _ ih
    · rw [clo_stop (i := i) (by omega) (i + 1) (by omega)]; exact ih
theorem clo_all {gens : List Bs} {e : Bs} (p : Bs → Prop) (h0 : p e) (hs : ∀ a, p a → ∀ g ∈ gens, p (timesL a g)) (i : Nat) : ∀ x ∈ clo gens e i, p x := by
  induction i with
  | zero => intro x hx; rw [List.mem_singleton.1 hx]; exact h0
  | succ i ih =>
    by_cases h : i < (clo gens e i).length
    · rw [clo_succ h]
      intro x hx
      rcases (grow1_mem _ _ _ _).1 hx with hh | ⟨g, hg, rfl⟩
      · exact ih x hh
      · refine hs _ (ih _ ?_) g hg
        rw [List.getD_eq_getElem?_getD, List.getElem?_eq_getElem h]
        exact List.getElem_mem h
    · rw [clo_stop (i := i) (by omega) (i + 1) (by omega)]; exact ih
theorem clo_first (gens : List Bs) (e : Bs) (i : Nat) : e ∈ clo gens e i := (clo_mono gens e 0 i (Nat.zero_le _)).subset (List.mem_singleton.2 rfl)
/-- At most m rows are generated. -/
def GenOk (gens : List Bs) (e : Bs) (m : Nat) : Prop := (clo gens e m).length ≤ m
instance (gens : List Bs) (e : Bs) (m : Nat) : Decidable (GenOk gens e m) := by unfold GenOk; infer_instance
def genV (gens : List Bs) (e : Bs) (m : Nat) : List Bs := if GenOk gens e m then srt (clo gens e m) else []
theorem gen_end {gens : List Bs} {e : Bs} {m i : Nat} (h1 : (clo gens e i).length ≤ i) (h2 : (clo gens e i).length ≤ m) : GenOk gens e m ∧ clo gens e m = clo gens e i := by
  have h3 := clo_stop (gens := gens) (e := e) (i := (clo gens e i).length)
  have key : clo gens e (clo gens e i).length = clo gens e i := by
    have hp := clo_mono gens e (clo gens e i).length i h1
    by_cases hs : (clo gens e (clo gens e i).length).length ≤ (clo gens e i).length
    · exact ((clo_stop hs) i h1).symm
    · have := hp.length_le
      omega
  have e2 : clo gens e m = clo gens e (clo gens e i).length := clo_stop (by rw [key]; exact Nat.le_refl _) m h2
  rw [key] at e2
  exact ⟨by unfold GenOk; rw [e2]; exact h2, e2⟩
theorem gen_fail {gens : List Bs} {e : Bs} {m i : Nat} (h1 : (clo gens e i).length ≤ m) (h2 : i < (clo gens e i).length) (h3 : m < (clo gens e (i + 1)).length) : ¬ GenOk gens e m := by
  intro h
  have := (clo_mono gens e (i + 1) m (by omega)).length_le
  unfold GenOk at h
  omega
theorem gen_mono {gens : List Bs} {e : Bs} {m n : Nat} (h : GenOk gens e m) (hmn : m ≤ n) : GenOk gens e n ∧ clo gens e n = clo gens e m := by
  have := clo_stop h n hmn
  exact ⟨by unfold GenOk; rw [this]; unfold GenOk at h; omega, this⟩
/-- Few rows are generated: the same, from a greater bound. -/
theorem gen_few {gens : List Bs} {e : Bs} {m n : Nat} (hmn : m ≤ n) : (GenOk gens e n ∧ (genV gens e n).length ≤ m) ↔ GenOk gens e m := by
  constructor
  · rintro ⟨h1, h2⟩
    rw [genV, if_pos h1, srt_len] at h2
    have := (clo_mono gens e m n hmn).length_le
    unfold GenOk
    omega
  · intro h
    obtain ⟨h1, h2⟩ := gen_mono h hmn
    refine ⟨h1, ?_⟩
    rw [genV, if_pos h1, srt_len, h2]
    exact h
theorem genV_eq {gens : List Bs} {e : Bs} {m n : Nat} (hmn : m ≤ n) (h : GenOk gens e m) : genV gens e n = genV gens e m := by
  obtain ⟨h1, h2⟩ := gen_mono h hmn
  rw [genV, if_pos h1, genV, if_pos h, h2]
theorem genV_rise (gens : List Bs) (e : Bs) (m : Nat) : Rise (genV gens e m) := by
  unfold genV
  split
  · exact srt_rise (clo_nodup _ _ _)
  · exact List.Pairwise.nil
theorem genV_len (gens : List Bs) (e : Bs) (m : Nat) : (genV gens e m).length ≤ m := by
  unfold genV
  split
  · rename_i h; rw [srt_len]; exact h
  · simp
/-- What is generated is closed. -/
theorem gen_closed {gens : List Bs} {e : Bs} {m : Nat} (h : GenOk gens e m) {a g : Bs} (ha : a ∈ clo gens e m) (hg : g ∈ gens) : timesL a g ∈ clo gens e m := by
  obtain ⟨i, hi, rfl⟩ := List.getElem_of_mem ha
  have hpre : ∀ j, i < (clo gens e j).length → j ≤ m → (clo gens e j).getD i [] = (clo gens e m)[i] := fun j hj hjm => by
    obtain ⟨t, ht⟩ := clo_mono gens e j m hjm
    rw [List.getD_eq_getElem?_getD, List.getElem?_eq_getElem hj, Option.getD_some]
    simp only [← ht]
    rw [List.getElem_append_left hj]
  have him : i < m := Nat.lt_of_lt_of_le hi h
  have hil : i < (clo gens e i).length := by
    rcases Nat.lt_or_ge i (clo gens e i).length with h1 | h1
    · exact h1
    · have := clo_stop h1 m (by omega)
      rw [this] at hi
      omega
  have h1 := clo_succ hil
  rw [hpre i hil (by omega)] at h1
  refine (clo_mono gens e (i + 1) m (by omega)).subset ?_
  rw [h1]
  exact (grow1_mem _ _ _ _).2 (.inr ⟨g, hg, rfl⟩)
end Go.Proofs.Ytnhealghpfjdcaa
