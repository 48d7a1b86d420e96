/-
  Plain lists: the rows that some rows generate. No program.
  Conditions: none.
-/
import Derived.Test.YtfklonhjgkahdaaPs
import Derived.Test.YtfklonhjgkahdaaPd
set_option linter.unusedSimpArgs false
set_option linter.unusedVariables false
set_option linter.defProp false
namespace Go.Proofs.Ytfklonhjgkahdaa
open Go
/-- One more row, unless it is there. -/
def put1 (l : List Bs) (x : Bs) : List Bs := if x ∈ l then l else l ++ [x]
theorem put1_mem (l : List Bs) (x y : Bs) : y ∈ put1 l x ↔ y ∈ l ∨ y = x := by
  unfold put1
  split
  · rename_i h
    exact ⟨.inl, fun hh => hh.elim id fun e => e ▸ h⟩
  · simp
theorem put1_nodup {l : List Bs} (x : Bs) (h : l.Nodup) : (put1 l x).Nodup := by
  unfold put1
  split
  · exact h
  · rename_i hx
    exact List.nodup_append.2 ⟨h, by simp, fun a ha b hb e => hx (by rw [List.mem_singleton.1 hb] at e; exact e ▸ ha)⟩
theorem put1_len (l : List Bs) (x : Bs) : l.length ≤ (put1 l x).length := by
  unfold put1; split <;> simp
theorem put1_len2 (l : List Bs) (x : Bs) : (put1 l x).length ≤ l.length + 1 := by
  unfold put1; split <;> simp
theorem put1_pre (l : List Bs) (x : Bs) : l <+: put1 l x := by
  unfold put1; split
  · exact List.prefix_refl _
  · exact List.prefix_append _ _
def grow1 (gens : List Bs) (l : List Bs) (a : Bs) : List Bs := gens.foldl (fun l g => put1 l (timesL a g)) l
theorem grow1_pre (gens : List Bs) : ∀ (l : List Bs) (a : Bs), l <+: grow1 gens l a := by
  unfold grow1
  induction gens with
  | nil => intro l a; exact List.prefix_refl _
  | cons g gens ih => intro l a; exact List.IsPrefix.trans (put1_pre l _) (ih _ a)
theorem grow1_len (gens : List Bs) (l : List Bs) (a : Bs) : l.length ≤ (grow1 gens l a).length := (grow1_pre gens l a).length_le
theorem grow1_len2 (gens : List Bs) : ∀ (l : List Bs) (a : Bs), (grow1 gens l a).length ≤ l.length + gens.length := by
  unfold grow1
  induction gens with
  | nil => intro l a; simp
  | cons g gens ih => intro l a; have := ih (put1 l (timesL a g)) a; have := put1_len2 l (timesL a g); simp only [List.foldl_cons, List.length_cons]; omega
theorem grow1_mem (gens : List Bs) : ∀ (l : List Bs) (a y : Bs), y ∈ grow1 gens l a ↔ y ∈ l ∨ ∃ g ∈ gens, y = timesL a g := by
  unfold grow1
  induction gens with
  | nil => intro l a y; simp
  | cons g gens ih =>
    intro l a y
    rw [List.foldl_cons, ih, put1_mem]
    simp only [List.mem_cons, exists_eq_or_imp, or_assoc]
theorem grow1_nodup (gens : List Bs) : ∀ (l : List Bs) (a : Bs), l.Nodup → (grow1 gens l a).Nodup := by
  unfold grow1
  induction gens with
  | nil => intro l a h; exact h
  | cons g gens ih => intro l a h; exact ih _ a (put1_nodup _ h)
theorem grow1_succ (gens : List Bs) (l : List Bs) (a : Bs) (k : Nat) (h : k < gens.length) : grow1 (gens.take (k + 1)) l a = put1 (grow1 (gens.take k) l a) (timesL a (gens.getD k [])) := by
  unfold grow1
  rw [List.take_add_one, List.getElem?_eq_getElem h, List.getD_eq_getElem?_getD, List.getElem?_eq_getElem h, Option.toList_some, List.foldl_append]
  rfl
theorem grow1_mono (gens : List Bs) (l : List Bs) (a : Bs) (k : Nat) : (grow1 (gens.take k) l a).length ≤ (grow1 gens l a).length := by
  have : grow1 gens l a = grow1 (gens.drop k) (grow1 (gens.take k) l a) a := by
    unfold grow1
    rw [← List.foldl_append, List.take_append_drop]
  rw [this]
  exact grow1_len _ _ _
theorem pre_get {C D : List Bs} (h : C <+: D) {i : Nat} (hi : i < C.length) : D.getD i [] = C.getD i [] := by
  obtain ⟨t, rfl⟩ := h
  rw [List.getD_eq_getElem?_getD, List.getD_eq_getElem?_getD, List.getElem?_append_left hi]
/-- The list behind i rounds. -/
def clo (gens : List Bs) (e : Bs) : Nat → List Bs
  | 0 => [e]
  | i + 1 => match (clo gens e i)[i]? with
    | none => clo gens e i
    | some a => grow1 gens (clo gens e i) a
theorem clo_succ {gens : List Bs} {e : Bs} {i : Nat} (h : i < (clo gens e i).length) : clo gens e (i + 1) = grow1 gens (clo gens e i) ((clo gens e i).getD i []) := by
  rw [clo, List.getElem?_eq_getElem h, List.getD_eq_getElem?_getD, List.getElem?_eq_getElem h]
  rfl
theorem clo_stop {gens : List Bs} {e : Bs} {i : Nat} (h : (clo gens e i).length ≤ i) : ∀ j, i ≤ j → clo gens e j = clo gens e i := by
  intro j hj
  induction j with
  | zero => obtain rfl : i = 0 := by omega
            rfl
  | succ j ih =>
    by_cases he : i = j + 1
    · rw [he]
    · have hi := ih (by omega)
      rw [clo, List.getElem?_eq_none (by rw [hi]; omega), ← hi]
theorem clo_pre (gens : List Bs) (e : Bs) (i : Nat) : clo gens e i <+: clo gens e (i + 1) := by
  by_cases h : i < (clo gens e i).length
  · rw [clo_succ h]; exact grow1_pre _ _ _
  · rw [clo_stop (i := i) (by omega) (i + 1) (by omega)]; exact List.prefix_refl _
theorem clo_mono (gens : List Bs) (e : Bs) (i j : Nat) (h : i ≤ j) : clo gens e i <+: clo gens e j := by
  induction j with
  | zero => obtain rfl : i = 0 := by omega
            exact List.prefix_refl _
  | succ j ih =>
    by_cases he : i = j + 1
    · rw [he]; exact List.prefix_refl _
    · exact List.IsPrefix.trans (ih (by omega)) (clo_pre gens e j)
theorem clo_nodup (gens : List Bs) (e : Bs) (i : Nat) : (clo gens e i).Nodup := by
  induction i with
  | zero => simp [clo]
  | succ i ih =>
    by_cases h : i < (clo gens e i).length
    · rw [clo_succ h]; exact grow1_nodup _ _ _ ih
    · rw [clo_stop (i := i) (by omega) (i + 1) (by omega)]; exact ih
theorem clo_all {gens : List Bs} {e : Bs} (p : Bs → Prop) (h0 : p e) (hs : ∀ a, p a → ∀ g ∈ gens, p (timesL a g)) (i : Nat) : ∀ x ∈ clo gens e i, p x := by
  induction i with
  | zero => intro x hx; rw [List.mem_singleton.1 hx]; exact h0
  | succ i ih =>
    by_cases h : i < (clo gens e i).length
    · rw [clo_succ h]
      intro x hx
      rcases (grow1_mem _ _ _ _).1 hx with hh | ⟨g, hg, rfl⟩
      · exact ih x hh
      · refine hs _ (ih _ ?_) g hg
        rw [List.getD_eq_getElem?_getD, List.getElem?_eq_getElem h]
        exact List.getElem_mem h
    · rw [clo_stop (i := i) (by omega) (i + 1) (by omega)]; exact ih
theorem clo_first (gens : List Bs) (e : Bs) (i : Nat) : e ∈ clo gens e i := (clo_mono gens e 0 i (Nat.zero_le _)).subset (List.mem_singleton.2 rfl)
/-- At most m rows are generated. -/
def GenOk (gens : List Bs) (e : Bs) (m : Nat) : Prop := (clo gens e m).length ≤ m
instance (gens : List Bs) (e : Bs) (m : Nat) : Decidable (GenOk gens e m) := by unfold GenOk; infer_instance
def genV (gens : List Bs) (e : Bs) (m : Nat) : List Bs := if GenOk gens e m then srt (clo gens e m) else []
theorem gen_end {gens : List Bs} {e : Bs} {m i : Nat} (h1 : (clo gens e i).length ≤ i) (h2 : (clo gens e i).length ≤ m) : GenOk gens e m ∧ clo gens e m = clo gens e i := by
  have h3 := clo_stop (gens := gens) (e := e) (i := (clo gens e i).length)
  have key : clo gens e (clo gens e i).length = clo gens e i := by
    have hp := clo_mono gens e (clo gens e i).length i h1
    by_cases hs : (clo gens e (clo gens e i).length).length ≤ (clo gens e i).length
    · exact ((clo_stop hs) i h1).symm
    · have := hp.length_le
      omega
  have e2 : clo gens e m = clo gens e (clo gens e i).length := clo_stop (by rw [key]; exact Nat.le_refl _) m h2
  rw [key] at e2
  exact ⟨by unfold GenOk; rw [e2]; exact h2, e2⟩
theorem gen_fail {gens : List Bs} {e : Bs} {m i : Nat} (h1 : (clo gens e i).length ≤ m) (h2 : i < (clo gens e i).length) (h3 : m < (clo gens e (i + 1)).length) : ¬ GenOk gens e m := by
  intro h
  have := (clo_mono gens e (i + 1) m (by omega)).length_le
  unfold GenOk at h
  omega
theorem gen_mono {gens : List Bs} {e : Bs} {m n : Nat} (h : GenOk gens e m) (hmn : m ≤ n) : GenOk gens e n ∧ clo gens e n = clo gens e m := by
  have := clo_stop h n hmn
  exact ⟨by unfold GenOk; rw [this]; unfold GenOk at h; omega, this⟩
/-- Few rows are generated: the same, from a greater bound. -/
theorem gen_few {gens : List Bs} {e : Bs} {m n : Nat} (hmn : m ≤ n) : (GenOk gens e n ∧ (genV gens e n).length ≤ m) ↔ GenOk gens e m := by
  constructor
  · rintro ⟨h1, h2⟩
    rw [genV, if_pos h1, srt_len] at h2
    have := (clo_mono gens e m n hmn).length_le
    unfold GenOk
    omega
  · intro h
    obtain ⟨h1, h2⟩ := gen_mono h hmn
    refine ⟨h1, ?_⟩
    rw [genV, if_pos h1, srt_len, h2]
    exact h
theorem genV_eq {gens : List Bs} {e : Bs} {m n : Nat} (hmn : m ≤ n) (h : GenOk gens e m) : genV gens e n = genV gens e m := by
  obtain ⟨h1, h2⟩ := gen_mono h hmn
  rw [genV, if_pos h1, genV, if_pos h, h2]
theorem genV_rise (gens : List Bs) (e : Bs) (m : Nat) : Rise (genV gens e m) := by
  unfold genV
  split
  · exact srt_rise (clo_nodup _ _ _)
  · exact List.Pairwise.nil
theorem genV_len (gens : List Bs) (e : Bs) (m : Nat) : (genV gens e m).length ≤ m := by
  unfold genV
  split
  · rename_i h; rw [srt_len]; exact h
  · simp
/-- What is generated is closed. -/
theorem gen_closed {gens : List Bs} {e : Bs} {m : Nat} (h : GenOk gens e m) {a g : Bs} (ha : a ∈ clo gens e m) (hg : g ∈ gens) : timesL a g ∈ clo gens e m := by
  obtain ⟨i, hi, rfl⟩ := List.getElem_of_mem ha
  have hpre : ∀ j, i < (clo gens e j).length → j ≤ m → (clo gens e j).getD i [] = (clo gens e m)[i] := fun j hj hjm => by
    obtain ⟨t, ht⟩ := clo_mono gens e j m hjm
    rw [List.getD_eq_getElem?_getD, List.getElem?_eq_getElem hj, Option.getD_some]
    simp only [← ht]
    rw [List.getElem_append_left hj]
  have him : i < m := Nat.lt_of_lt_of_le hi h
  have hil : i < (clo gens e i).length := by
    rcases Nat.lt_or_ge i (clo gens e i).length with h1 | h1
    · exact h1
    · have := clo_stop h1 m (by omega)
      rw [this] at hi
      omega
  have h1 := clo_succ hil
  rw [hpre i hil (by omega)] at h1
  refine (clo_mono gens e (i + 1) m (by omega)).subset ?_
  rw [h1]
  exact (grow1_mem _ _ _ _).2 (.inr ⟨g, hg, rfl⟩)
theorem snoc_ind {p : List Bs → Prop} (base : p []) (step : ∀ l x, p l → p (l ++ [x])) (l : List Bs) : p l := by
  have h : ∀ m : List Bs, p m.reverse := fun m => by
    induction m with
    | nil => exact base
    | cons x m ih => rw [List.reverse_cons]; exact step _ _ ih
  simpa using h l.reverse
/-- The products of the rows of a layer with the heads. -/
def stepsL (hs layer : List Bs) : List Bs := layer.flatMap fun r => hs.map (timesL r)
theorem stepsL_mem (hs layer : List Bs) (x : Bs) : x ∈ stepsL hs layer ↔ ∃ r ∈ layer, ∃ h ∈ hs, x = timesL r h := by
  unfold stepsL
  simp only [List.mem_flatMap, List.mem_map]
  exact ⟨fun ⟨r, hr, h, hh, e⟩ => ⟨r, hr, h, hh, e.symm⟩, fun ⟨r, hr, h, hh, e⟩ => ⟨r, hr, h, hh, e.symm⟩⟩
theorem stepsL_len (hs layer : List Bs) : (stepsL hs layer).length = layer.length * hs.length := by
  unfold stepsL
  induction layer with
  | nil => simp
  | cons r l ih => rw [List.flatMap_cons, List.length_append, ih, List.length_map, List.length_cons, Nat.add_mul]; omega
theorem stepsL_snoc (hs l : List Bs) (k : Nat) (h : k < l.length) : stepsL hs (l.take (k + 1)) = stepsL hs (l.take k) ++ hs.map (timesL (l.getD k [])) := by
  unfold stepsL
  rw [List.take_add_one, List.getElem?_eq_getElem h, List.getD_eq_getElem?_getD, List.getElem?_eq_getElem h, List.flatMap_append]
  simp
/-- The new ones among some rows, each once. -/
def newL (S : List Bs) (l : List Bs) : List Bs := l.foldl (fun acc x => if x ∈ S ∨ x ∈ acc then acc else acc ++ [x]) []
theorem newL_snoc (S l : List Bs) (x : Bs) : newL S (l ++ [x]) = if x ∈ S ∨ x ∈ newL S l then newL S l else newL S l ++ [x] := by
  unfold newL
  rw [List.foldl_append]; rfl
theorem newL_spec (S : List Bs) (l : List Bs) : (newL S l).Nodup ∧ (∀ x, x ∈ newL S l ↔ x ∈ l ∧ x ∉ S) ∧ (newL S l).length ≤ l.length := by
  induction l using snoc_ind with
  | base => simp [newL]
  | step l x ih =>
    obtain ⟨h1, h2, h3⟩ := ih
    rw [newL_snoc]
    split
    · rename_i h
      refine ⟨h1, fun y => ?_, by simp; omega⟩
      rw [h2, List.mem_append, List.mem_singleton]
      constructor
      · exact fun ⟨a, b⟩ => ⟨.inl a, b⟩
      · rintro ⟨a | a, b⟩
        · exact ⟨a, b⟩
        · subst a
          rcases h with h | h
          · exact absurd h b
          · exact (h2 y).1 h
    · rename_i h
      have hS : x ∉ S := fun hh => h (.inl hh)
      have hn : x ∉ newL S l := fun hh => h (.inr hh)
      refine ⟨List.nodup_append.2 ⟨h1, by simp, fun a ha b hb e => hn (by rw [List.mem_singleton.1 hb] at e; exact e ▸ ha)⟩, fun y => ?_, by simp; omega⟩
      rw [List.mem_append, List.mem_singleton, h2, List.mem_append, List.mem_singleton]
      constructor
      · rintro (⟨a, b⟩ | a)
        · exact ⟨.inl a, b⟩
        · subst a; exact ⟨.inr rfl, hS⟩
      · rintro ⟨a | a, b⟩
        · exact .inl ⟨a, b⟩
        · exact .inr a
/-- The next layer behind the rows S. -/
def layNx (S hs layer : List Bs) : List Bs := srt (newL S (stepsL hs layer))
theorem layNx_rise (S hs layer : List Bs) : Rise (layNx S hs layer) := srt_rise (newL_spec S _).1
theorem layNx_mem (S hs layer : List Bs) (x : Bs) : x ∈ layNx S hs layer ↔ (∃ r ∈ layer, ∃ h ∈ hs, x = timesL r h) ∧ x ∉ S := by
  unfold layNx
  rw [srt_mem, (newL_spec S _).2.1, stepsL_mem]
theorem layNx_len (S hs layer : List Bs) : (layNx S hs layer).length ≤ layer.length * hs.length := by
  unfold layNx
  rw [srt_len, ← stepsL_len]
  exact (newL_spec S _).2.2
/-- The same by another way: out of a list in order, whatever is new and not the last that was taken. -/
def uqL (S : List Bs) (l : List Bs) : List Bs := l.foldl (fun acc x => if acc.getLast? = some x ∨ x ∈ S then acc else acc ++ [x]) []
theorem uqL_snoc (S l : List Bs) (x : Bs) : uqL S (l ++ [x]) = if (uqL S l).getLast? = some x ∨ x ∈ S then uqL S l else uqL S l ++ [x] := by
  unfold uqL
  rw [List.foldl_append]; rfl
theorem uqL_len (S l : List Bs) : (uqL S l).length ≤ l.length := by
  induction l using snoc_ind with
  | base => simp [uqL]
  | step l x ih => rw [uqL_snoc]; split <;> simp <;> omega
theorem uqL_spec (S : List Bs) (l : List Bs) (hl : l.Pairwise (· ≤ ·)) : Rise (uqL S l) ∧ (∀ x, x ∈ uqL S l ↔ x ∈ l ∧ x ∉ S) ∧ (uqL S l).length ≤ l.length := by
  induction l using snoc_ind with
  | base => simp [uqL, Rise]
  | step l x ih =>
    obtain ⟨hl1, _, hl2⟩ := List.pairwise_append.1 hl
    obtain ⟨h1, h2, h3⟩ := ih hl1
    have hle : ∀ y ∈ uqL S l, y ≤ x := fun y hy => hl2 y ((h2 y).1 hy).1 x (by simp)
    rw [uqL_snoc]
    split
    · rename_i h
      refine ⟨h1, fun y => ?_, by simp; omega⟩
      rw [h2, List.mem_append, List.mem_singleton]
      constructor
      · exact fun ⟨a, b⟩ => ⟨.inl a, b⟩
      · rintro ⟨a | a, b⟩
        · exact ⟨a, b⟩
        · subst a
          rcases h with h | h
          · exact (h2 y).1 (List.mem_of_getLast? h)
          · exact absurd h b
    · rename_i h
      have hS : x ∉ S := fun hh => h (.inr hh)
      have hlast : ∀ y ∈ uqL S l, y < x := fun y hy => by
        rcases List.le_iff_lt_or_eq.1 (hle y hy) with hlt | e
        · exact hlt
        · exfalso
          subst e
          apply h
          left
          obtain ⟨z, hz⟩ : ∃ z, (uqL S l).getLast? = some z := by
            cases hg : (uqL S l).getLast? with
            | none => rw [List.getLast?_eq_none_iff.1 hg] at hy; cases hy
            | some z => exact ⟨z, rfl⟩
          rw [hz]
          congr 1
          have hzm := List.mem_of_getLast? hz
          obtain ⟨t, ht⟩ := List.getLast?_eq_some_iff.1 hz
          rcases List.mem_append.1 (ht ▸ hy) with hm | hm
          · have h1' : Rise (t ++ [z]) := ht ▸ h1
            have := (List.pairwise_append.1 h1').2.2 y hm z (by simp)
            exact absurd (hle z hzm) (List.not_le.2 this)
          · exact (List.mem_singleton.1 hm).symm
      refine ⟨List.pairwise_append.2 ⟨h1, List.pairwise_singleton _ _, fun a ha b hb => by rw [List.mem_singleton.1 hb]; exact hlast a ha⟩, fun y => ?_, by simp; omega⟩
      rw [List.mem_append, List.mem_singleton, h2, List.mem_append, List.mem_singleton]
      constructor
      · rintro (⟨a, b⟩ | a)
        · exact ⟨.inl a, b⟩
        · subst a; exact ⟨.inr rfl, hS⟩
      · rintro ⟨a | a, b⟩
        · exact .inl ⟨a, b⟩
        · exact .inr a
theorem uqL_nxt (S hs layer : List Bs) : uqL S (srt (stepsL hs layer)) = layNx S hs layer := by
  obtain ⟨h1, h2, _⟩ := uqL_spec S (srt (stepsL hs layer)) (srt_sorted _)
  refine rise_uniq h1 (layNx_rise S hs layer) fun x => ?_
  rw [h2, srt_mem, stepsL_mem, layNx_mem]
/-- The layers up to number k. -/
def lays (hs : List Bs) (f : Bs) : Nat → List (List Bs)
  | 0 => [[f]]
  | k + 1 => lays hs f k ++ [layNx (lays hs f k).flatten hs ((lays hs f k).getD k [])]
def layer (hs : List Bs) (f : Bs) (k : Nat) : List Bs := (lays hs f k).getD k []
theorem lays_len (hs : List Bs) (f : Bs) (k : Nat) : (lays hs f k).length = k + 1 := by
  induction k with
  | zero => rfl
  | succ k ih => rw [lays, List.length_append, ih]; rfl
theorem lays_succ (hs : List Bs) (f : Bs) (k : Nat) : lays hs f (k + 1) = lays hs f k ++ [layer hs f (k + 1)] := by
  have h := lays_len hs f k
  unfold layer
  rw [lays, List.getD_eq_getElem?_getD (i := k + 1), List.getElem?_append_right (by omega), h]
  simp
theorem layer_zero (hs : List Bs) (f : Bs) : layer hs f 0 = [f] := rfl
theorem layer_succ (hs : List Bs) (f : Bs) (k : Nat) : layer hs f (k + 1) = layNx (lays hs f k).flatten hs (layer hs f k) := by
  have h := lays_len hs f k
  rw [layer, lays, List.getD_eq_getElem?_getD (i := k + 1), List.getElem?_append_right (by omega), h]
  simp [layer]
theorem lays_get (hs : List Bs) (f : Bs) (k j : Nat) (h : j ≤ k) : (lays hs f k).getD j [] = layer hs f j := by
  induction k with
  | zero => obtain rfl : j = 0 := by omega
            rfl
  | succ k ih =>
    by_cases he : j = k + 1
    · rw [he]; rfl
    · have := lays_len hs f k
      rw [lays_succ, List.getD_eq_getElem?_getD, List.getElem?_append_left (by omega), ← List.getD_eq_getElem?_getD]
      exact ih (by omega)
theorem lays_mem (hs : List Bs) (f : Bs) (k : Nat) (x : Bs) : x ∈ (lays hs f k).flatten ↔ ∃ j ≤ k, x ∈ layer hs f j := by
  induction k with
  | zero =>
    constructor
    · intro h; exact ⟨0, Nat.le_refl _, by simpa [lays, layer_zero] using h⟩
    · rintro ⟨j, hj, h⟩
      obtain rfl : j = 0 := by omega
      simpa [lays, layer_zero] using h
  | succ k ih =>
    rw [lays_succ, List.flatten_append, List.mem_append, ih]
    constructor
    · rintro (⟨j, hj, h⟩ | h)
      · exact ⟨j, by omega, h⟩
      · exact ⟨k + 1, Nat.le_refl _, by simpa using h⟩
    · rintro ⟨j, hj, h⟩
      by_cases he : j = k + 1
      · subst he; exact .inr (by simpa using h)
      · exact .inl ⟨j, by omega, h⟩
/-- The layers up to the one that has a row: at most m more behind number k. -/
def layGo (hs : List Bs) (f t : Bs) : Nat → Nat → Option Nat
  | 0, _ => none
  | m + 1, k => if 800 < (lays hs f k).flatten.length then none else if t ∈ layer hs f (k + 1) then some (k + 1) else layGo hs f t m (k + 1)
theorem layGo_some {hs : List Bs} {f t : Bs} : ∀ {m k n : Nat}, layGo hs f t m k = some n → k < n ∧ n ≤ k + m ∧ t ∈ layer hs f n ∧ (∀ j, k < j → j < n → t ∉ layer hs f j) ∧ ∀ j, k ≤ j → j < n → (lays hs f j).flatten.length ≤ 800 := by
  intro m
  induction m with
  | zero => intro k n h; cases h
  | succ m ih =>
    intro k n h
    rw [layGo] at h
    split at h
    · cases h
    · rename_i hc
      split at h
      · rename_i ht
        cases h
        refine ⟨by omega, by omega, ht, fun j h1 h2 => by omega, fun j h1 h2 => ?_⟩
        obtain rfl : j = k := by omega
        omega
      · rename_i ht
        obtain ⟨h1, h2, h3, h4, h5⟩ := ih h
        refine ⟨by omega, by omega, h3, fun j a b => ?_, fun j a b => ?_⟩
        · by_cases he : j = k + 1
          · subst he; exact ht
          · exact h4 j (by omega) b
        · by_cases he : j = k
          · subst he; omega
          · exact h5 j (by omega) b
section
variable (H : UInt8 → Bs)
def hs3 : List Bs := [H 112, H 98, H 115]
/-- The least word of n letters that leads from r to t. -/
def leastT (t : Bs) : Nat → Bs → Option Bs
  | 0, r => if r = t then some [] else none
  | n + 1, r => match leastT t n (timesL r (H 98)) with
    | some x => some (98 :: x)
    | none => match leastT t n (timesL r (H 112)) with
      | some x => some (112 :: x)
      | none => match leastT t n (timesL r (H 115)) with
        | some x => some (115 :: x)
        | none => none
end
section
variable {H : UInt8 → Bs} {t f : Bs}
theorem leastT_b {n : Nat} {r x : Bs} (h : leastT H t n (timesL r (H 98)) = some x) : leastT H t (n + 1) r = some (98 :: x) := by rw [leastT, h]
theorem leastT_p {n : Nat} {r x : Bs} (h1 : leastT H t n (timesL r (H 98)) = none) (h : leastT H t n (timesL r (H 112)) = some x) : leastT H t (n + 1) r = some (112 :: x) := by rw [leastT, h1]; simp only [h]
theorem leastT_s {n : Nat} {r x : Bs} (h1 : leastT H t n (timesL r (H 98)) = none) (h2 : leastT H t n (timesL r (H 112)) = none) (h : leastT H t n (timesL r (H 115)) = some x) : leastT H t (n + 1) r = some (115 :: x) := by rw [leastT, h1]; simp only [h2, h]
theorem leastT_n {n : Nat} {r : Bs} (h1 : leastT H t n (timesL r (H 98)) = none) (h2 : leastT H t n (timesL r (H 112)) = none) (h : leastT H t n (timesL r (H 115)) = none) : leastT H t (n + 1) r = none := by rw [leastT, h1]; simp only [h2, h]
def Rch (H : UInt8 → Bs) (t : Bs) (n : Nat) (r : Bs) : Prop := leastT H t n r ≠ none
theorem rch_zero (r : Bs) : Rch H t 0 r ↔ r = t := by
  unfold Rch leastT
  by_cases h : r = t <;> simp [h]
theorem rch_succ (n : Nat) (r : Bs) : Rch H t (n + 1) r ↔ ∃ h ∈ hs3 H, Rch H t n (timesL r h) := by
  unfold Rch hs3
  simp only [List.mem_cons, List.not_mem_nil, or_false, exists_eq_or_imp, exists_eq_left]
  cases h1 : leastT H t n (timesL r (H 98)) with
  | some x => rw [leastT_b h1]; simp
  | none =>
    cases h2 : leastT H t n (timesL r (H 112)) with
    | some x => rw [leastT_p h1 h2]; simp
    | none =>
      cases h3 : leastT H t n (timesL r (H 115)) with
      | some x => rw [leastT_s h1 h2 h3]; simp
      | none => rw [leastT_n h1 h2 h3]; simp
theorem layer_in {hs : List Bs} {j : Nat} {x h : Bs} (hx : x ∈ layer hs f j) (hh : h ∈ hs) : ∃ i ≤ j + 1, timesL x h ∈ layer hs f i := by
  by_cases hm : timesL x h ∈ (lays hs f j).flatten
  · obtain ⟨i, hi, h2⟩ := (lays_mem hs f j _).1 hm
    exact ⟨i, by omega, h2⟩
  · exact ⟨j + 1, Nat.le_refl _, by rw [layer_succ, layNx_mem]; exact ⟨⟨x, hx, h, hh, rfl⟩, hm⟩⟩
theorem layer_from {hs : List Bs} {j : Nat} {x : Bs} (hx : x ∈ layer hs f (j + 1)) : ∃ r ∈ layer hs f j, ∃ h ∈ hs, x = timesL r h := by
  rw [layer_succ, layNx_mem] at hx
  exact hx.1
theorem rch_in : ∀ (n j : Nat) (x : Bs), x ∈ layer (hs3 H) f j → Rch H t n x → ∃ i ≤ j + n, t ∈ layer (hs3 H) f i := by
  intro n
  induction n with
  | zero => intro j x hx hr; exact ⟨j, by omega, (rch_zero x).1 hr ▸ hx⟩
  | succ n ih =>
    intro j x hx hr
    obtain ⟨h, hh, hr⟩ := (rch_succ n x).1 hr
    obtain ⟨i, hi, hy⟩ := layer_in hx hh
    obtain ⟨m, hm, hz⟩ := ih i _ hy hr
    exact ⟨m, by omega, hz⟩
theorem rch_first : ∀ (j n : Nat) (x : Bs), x ∈ layer (hs3 H) f j → Rch H t n x → Rch H t (n + j) f := by
  intro j
  induction j with
  | zero => intro n x hx hr; rw [layer_zero, List.mem_singleton] at hx; exact hx ▸ hr
  | succ j ih =>
    intro n x hx hr
    obtain ⟨r, h1, h, hh, rfl⟩ := layer_from hx
    have := ih (n + 1) r h1 ((rch_succ n r).2 ⟨h, hh, hr⟩)
    rwa [show n + (j + 1) = n + 1 + j by omega]
/-- t lies first in layer K. -/
def First (H : UInt8 → Bs) (f t : Bs) (K : Nat) : Prop := t ∈ layer (hs3 H) f K ∧ ∀ j < K, t ∉ layer (hs3 H) f j
theorem first_of {m K : Nat} (hne : f ≠ t) (h : layGo (hs3 H) f t m 0 = some K) : First H f t K := by
  obtain ⟨_, _, h3, h4, _⟩ := layGo_some h
  refine ⟨h3, fun j hj ht => ?_⟩
  by_cases h0 : j = 0
  · subst h0
    rw [layer_zero, List.mem_singleton] at ht
    exact hne ht.symm
  · exact h4 j (by omega) hj ht
theorem First.start {K : Nat} (h : First H f t K) : Rch H t K f := by
  have := rch_first K 0 t h.1 ((rch_zero t).2 rfl)
  rwa [Nat.zero_add] at this
/-- On a shortest way each step leads to the next layer. -/
theorem First.step {K i n : Nat} (hF : First H f t K) (hi : i + 1 + n = K) {r h : Bs} (hr : r ∈ layer (hs3 H) f i) (hh : h ∈ hs3 H) (hR : Rch H t n (timesL r h)) : timesL r h ∈ layer (hs3 H) f (i + 1) := by
  obtain ⟨j, hj, hx⟩ := layer_in hr hh
  by_cases he : j = i + 1
  · subst he; exact hx
  · obtain ⟨m, hm, ht⟩ := rch_in n j _ hx hR
    exact absurd ht (hF.2 m (by omega))
/-- The rows of layer i from which there are n steps to t. -/
def Good (H : UInt8 → Bs) (f t : Bs) (i n : Nat) (r : Bs) : Prop := r ∈ layer (hs3 H) f i ∧ Rch H t n r
theorem First.good {K i n : Nat} (hF : First H f t K) (hi : i + 1 + n = K) {r : Bs} (hr : r ∈ layer (hs3 H) f i) : Good H f t i (n + 1) r ↔ ∃ h ∈ hs3 H, Good H f t (i + 1) n (timesL r h) := by
  constructor
  · rintro ⟨_, h⟩
    obtain ⟨x, hx, hR⟩ := (rch_succ n r).1 h
    exact ⟨x, hx, hF.step hi hr hx hR, hR⟩
  · rintro ⟨h, hh, _, hR⟩
    exact ⟨hr, (rch_succ n r).2 ⟨h, hh, hR⟩⟩
theorem First.last {K : Nat} (hF : First H f t K) (r : Bs) : Good H f t K 0 r ↔ r = t := by
  constructor
  · rintro ⟨_, h⟩; exact (rch_zero r).1 h
  · rintro rfl; exact ⟨hF.1, (rch_zero r).2 rfl⟩
/-- One letter of the least way. -/
def letter (H : UInt8 → Bs) (t : Bs) (n : Nat) (r : Bs) : UInt8 := if leastT H t n (timesL r (H 98)) ≠ none then 98 else if leastT H t n (timesL r (H 112)) ≠ none then 112 else 115
theorem least_letter {n : Nat} {r : Bs} (h : Rch H t (n + 1) r) : ∃ x, leastT H t n (timesL r (H (letter H t n r))) = some x ∧ leastT H t (n + 1) r = some (letter H t n r :: x) := by
  unfold letter
  cases h1 : leastT H t n (timesL r (H 98)) with
  | some x => exact ⟨x, by simpa using h1, by rw [leastT_b h1]; simp⟩
  | none =>
    cases h2 : leastT H t n (timesL r (H 112)) with
    | some x => exact ⟨x, by simpa using h2, by rw [leastT_p h1 h2]; simp⟩
    | none =>
      cases h3 : leastT H t n (timesL r (H 115)) with
      | some x => exact ⟨x, by simpa using h3, by rw [leastT_s h1 h2 h3]; simp⟩
      | none => exact absurd (leastT_n h1 h2 h3) h
end
end Go.Proofs.Ytfklonhjgkahdaa
