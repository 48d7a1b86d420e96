/-
  Plain lists: texts in bytewise order, sorted lists. No program.
  Conditions: none.
-/
import Derived.Test.YtfklonhjgkahdaaKPb
import GoSem.Op.String
set_option linter.unusedSimpArgs false
set_option linter.unusedVariables false
set_option linter.defProp false
namespace Go.Proofs.Ytfklonhjgkahdaa
open Go
abbrev Bs := List UInt8
theorem less_lt : ∀ (x y : Bs), Op.bytesLess x y = decide (x < y) := by
  intro x
  induction x with
  | nil => intro y; cases y <;> simp [Op.bytesLess]
  | cons a x ih =>
    intro y
    cases y with
    | nil => simp [Op.bytesLess]
    | cons b y =>
      simp only [Op.bytesLess, ih, List.cons_lt_cons_iff]
      by_cases h1 : a < b
      · simp [h1]
      · by_cases h2 : b < a
        · have h3 : ¬ a = b := fun e => by subst e; exact h1 h2
          simp [h1, h2, h3]
        · have h3 : a = b := UInt8.le_antisymm (UInt8.not_lt.1 h2) (UInt8.not_lt.1 h1)
          simp [h1, h2, h3]
/-- A list of texts in order. -/
def srt (l : List Bs) : List Bs := l.mergeSort fun x y => decide (x ≤ y)
theorem le_tr (a b c : Bs) (h1 : decide (a ≤ b) = true) (h2 : decide (b ≤ c) = true) : decide (a ≤ c) = true := by
  simp only [decide_eq_true_eq] at *
  exact List.le_trans h1 h2
theorem le_to (a b : Bs) : (decide (a ≤ b) || decide (b ≤ a)) = true := by
  simp only [Bool.or_eq_true, decide_eq_true_eq]
  exact List.le_total a b
theorem srt_perm (l : List Bs) : (srt l).Perm l := List.mergeSort_perm _ _
theorem srt_len (l : List Bs) : (srt l).length = l.length := (srt_perm l).length_eq
theorem srt_mem {l : List Bs} {x : Bs} : x ∈ srt l ↔ x ∈ l := (srt_perm l).mem_iff
theorem srt_sorted (l : List Bs) : (srt l).Pairwise (· ≤ ·) := (List.pairwise_mergeSort le_tr le_to l).imp fun h => by simpa using h
theorem sorted_uniq : ∀ {l m : List Bs}, l.Perm m → l.Pairwise (· ≤ ·) → m.Pairwise (· ≤ ·) → l = m := by
  intro l
  induction l with
  | nil => intro m h _ _; rw [List.Perm.eq_nil h.symm]
  | cons a l ih =>
    intro m h h1 h2
    cases m with
    | nil => exact absurd h.length_eq (by simp)
    | cons b m =>
      have ha : a ∈ b :: m := h.mem_iff.1 List.mem_cons_self
      have hb : b ∈ a :: l := h.mem_iff.2 List.mem_cons_self
      have e : a = b := by
        rcases List.mem_cons.1 ha with e | e
        · exact e
        · rcases List.mem_cons.1 hb with e2 | e2
          · exact e2.symm
          · exact List.le_antisymm ((List.pairwise_cons.1 h1).1 b e2) ((List.pairwise_cons.1 h2).1 a e)
      subst e
      rw [ih (List.Perm.cons_inv h) (List.pairwise_cons.1 h1).2 (List.pairwise_cons.1 h2).2]
theorem srt_uniq {l m : List Bs} (h : m.Perm l) (hs : m.Pairwise (· ≤ ·)) : m = srt l := sorted_uniq (h.trans (srt_perm l).symm) hs (srt_sorted l)
theorem srt_small {l : List Bs} (h : l.length < 2) : l = srt l := srt_uniq (List.Perm.refl l) (by
  match l, h with
  | [], _ => exact List.Pairwise.nil
  | [a], _ => exact List.pairwise_singleton _ _)
/-- Strictly in order. -/
def Rise (l : List Bs) : Prop := l.Pairwise (· < ·)
instance (l : List Bs) : Decidable (Rise l) := by unfold Rise; infer_instance
theorem Rise.sorted {l : List Bs} (h : Rise l) : l.Pairwise (· ≤ ·) := h.imp fun h => List.le_of_lt h
theorem Rise.nodup {l : List Bs} (h : Rise l) : l.Nodup := h.imp fun h e => by subst e; exact List.lt_irrefl _ h
theorem rise_of {l : List Bs} (h : l.Pairwise (· ≤ ·)) (hn : l.Nodup) : Rise l := by
  refine (h.and hn).imp ?_
  rintro a b ⟨h1, h2⟩
  rcases List.le_iff_lt_or_eq.1 h1 with h | h
  · exact h
  · exact absurd h h2
theorem srt_rise {l : List Bs} (hn : l.Nodup) : Rise (srt l) := rise_of (srt_sorted l) ((srt_perm l).nodup_iff.2 hn)
theorem rise_uniq {l m : List Bs} (h1 : Rise l) (h2 : Rise m) (h : ∀ x, x ∈ l ↔ x ∈ m) : l = m :=
  sorted_uniq ((List.perm_ext_iff_of_nodup h1.nodup h2.nodup).2 h) h1.sorted h2.sorted
/-- Neighbours that rise make a list that rises. -/
theorem rise_next {l : List Bs} (h : ∀ k, k + 1 < l.length → l.getD k [] < l.getD (k + 1) []) : Rise l := by
  unfold Rise
  induction l with
  | nil => exact List.Pairwise.nil
  | cons a l ih =>
    have h' := ih fun k hk => by simpa using h (k + 1) (by simpa using hk)
    refine List.pairwise_cons.2 ⟨fun b hb => ?_, h'⟩
    cases l with
    | nil => cases hb
    | cons c l =>
      have hc : a < c := by simpa using h 0 (by simp)
      rcases List.mem_cons.1 hb with e | e
      · subst e; exact hc
      · exact List.lt_trans hc ((List.pairwise_cons.1 h').1 b e)
theorem rise_get {l : List Bs} (h : Rise l) (i j : Nat) (hij : i < j) (hj : j < l.length) : l.getD i [] < l.getD j [] := by
  have := List.pairwise_iff_getElem.1 h i j (by omega) hj hij
  rwa [List.getD_eq_getElem?_getD, List.getD_eq_getElem?_getD, List.getElem?_eq_getElem (show i < l.length by omega), List.getElem?_eq_getElem hj]
theorem sorted_get {l : List Bs} (hs : l.Pairwise (· ≤ ·)) {p q : Nat} (h : p ≤ q) (hq : q < l.length) : l.getD p [] ≤ l.getD q [] := by
  have hg : ∀ (p : Nat) (hp : p < l.length), l.getD p [] = l[p] := fun p hp => by rw [List.getD_eq_getElem?_getD, List.getElem?_eq_getElem hp]; rfl
  rw [hg p (by omega), hg q hq]
  rcases Nat.lt_or_ge p q with h1 | h1
  · exact List.pairwise_iff_getElem.1 hs p q (by omega) hq h1
  · obtain rfl : p = q := by omega
    exact List.le_refl _
/-- Two lists in order, from which a third one is taken, least first. -/
structure Mrg (l A La Lb : List Bs) : Prop where
  sa : La.Pairwise (· ≤ ·)
  sb : Lb.Pairwise (· ≤ ·)
  so : A.Pairwise (· ≤ ·)
  le : ∀ p ∈ A, ∀ q ∈ La ++ Lb, p ≤ q
  pm : (A ++ (La ++ Lb)).Perm l
section
variable {l A La Lb : List Bs} {a b : Bs}
theorem Mrg.len (h : Mrg l A La Lb) : A.length + (La.length + Lb.length) = l.length := by
  have := h.pm.length_eq
  simpa only [List.length_append] using this
theorem Mrg.right (h : Mrg l A (a :: La) (b :: Lb)) (hba : b ≤ a) : Mrg l (A ++ [b]) (a :: La) Lb where
  sa := h.sa
  sb := (List.pairwise_cons.1 h.sb).2
  so := List.pairwise_append.2 ⟨h.so, List.pairwise_singleton _ _, fun p hp q hq => by rw [List.mem_singleton.1 hq]; exact h.le p hp b (by simp)⟩
  le p hp q hq := by
    rcases List.mem_append.1 hp with hp | hp
    · exact h.le p hp q (by
        rcases List.mem_append.1 hq with hq | hq
        · exact List.mem_append_left _ hq
        · exact List.mem_append_right _ (List.mem_cons_of_mem _ hq))
    · rw [List.mem_singleton.1 hp]
      rcases List.mem_append.1 hq with hq | hq
      · rcases List.mem_cons.1 hq with e | e
        · rw [e]; exact hba
        · exact List.le_trans hba ((List.pairwise_cons.1 h.sa).1 q e)
      · exact (List.pairwise_cons.1 h.sb).1 q hq
  pm := by
    have e : A ++ [b] ++ (a :: La ++ Lb) = A ++ (b :: (a :: La ++ Lb)) := by simp
    rw [e]
    exact ((List.Perm.refl A).append List.perm_middle.symm).trans h.pm
theorem Mrg.left (h : Mrg l A (a :: La) (b :: Lb)) (hab : a ≤ b) : Mrg l (A ++ [a]) La (b :: Lb) where
  sa := (List.pairwise_cons.1 h.sa).2
  sb := h.sb
  so := List.pairwise_append.2 ⟨h.so, List.pairwise_singleton _ _, fun p hp q hq => by rw [List.mem_singleton.1 hq]; exact h.le p hp a (by simp)⟩
  le p hp q hq := by
    rcases List.mem_append.1 hp with hp | hp
    · exact h.le p hp q (by
        rcases List.mem_append.1 hq with hq | hq
        · exact List.mem_append_left _ (List.mem_cons_of_mem _ hq)
        · exact List.mem_append_right _ hq)
    · rw [List.mem_singleton.1 hp]
      rcases List.mem_append.1 hq with hq | hq
      · exact (List.pairwise_cons.1 h.sa).1 q hq
      · rcases List.mem_cons.1 hq with e | e
        · rw [e]; exact hab
        · exact List.le_trans hab ((List.pairwise_cons.1 h.sb).1 q e)
  pm := by
    have e : A ++ [a] ++ (La ++ b :: Lb) = A ++ (a :: La ++ b :: Lb) := by simp
    rw [e]
    exact h.pm
theorem Mrg.done (h : Mrg l A La Lb) (h0 : La = [] ∨ Lb = []) : A ++ La ++ Lb = srt l := by
  rw [List.append_assoc]
  refine srt_uniq h.pm (List.pairwise_append.2 ⟨h.so, ?_, h.le⟩)
  rcases h0 with rfl | rfl
  · exact h.sb
  · rw [List.append_nil]; exact h.sa
end
end Go.Proofs.Ytfklonhjgkahdaa
