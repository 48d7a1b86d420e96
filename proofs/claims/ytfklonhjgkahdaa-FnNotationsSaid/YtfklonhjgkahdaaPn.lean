/-
  Place notation: what a text means, what is printed, and that reading undoes printing. Halves. No program.
  Conditions: none.
-/
import Derived.Test.YtfklonhjgkahdaaPd
import Derived.Test.YtfklonhjgkahdaaPs
set_option linter.unusedSimpArgs false
set_option linter.unusedVariables false
set_option linter.defProp false
namespace Go.Proofs.Ytfklonhjgkahdaa
open Go
/-- A digit stands at a. -/
def IsDg (s : Bs) (a : Nat) : Prop := a < s.length ∧ 48 ≤ (s.getD a 0).toNat ∧ (s.getD a 0).toNat ≤ 57
instance (s : Bs) (a : Nat) : Decidable (IsDg s a) := by unfold IsDg; infer_instance
/-- The place behind the digits from a on. -/
def digE (s : Bs) : Nat → Nat → Nat
  | 0, a => a
  | f + 1, a => if IsDg s a then digE s f (a + 1) else a
theorem digE_le (s : Bs) : ∀ f a, a ≤ digE s f a ∧ (a ≤ s.length → digE s f a ≤ s.length)
  | 0, a => ⟨Nat.le_refl _, fun h => h⟩
  | f + 1, a => by
    rw [digE]
    split
    · rename_i h
      have := digE_le s f (a + 1)
      exact ⟨by omega, fun _ => this.2 h.1⟩
    · exact ⟨Nat.le_refl _, fun h => h⟩
theorem digE_fuel (s : Bs) : ∀ f g a, s.length ≤ f + a → s.length ≤ g + a → digE s f a = digE s g a
  | 0, 0, a, _, _ => rfl
  | 0, g + 1, a, hf, _ => by
    rw [digE, digE, if_neg (fun h => by have := h.1; omega)]
  | f + 1, 0, a, _, hg => by
    rw [digE, digE, if_neg (fun h => by have := h.1; omega)]
  | f + 1, g + 1, a, hf, hg => by
    rw [digE, digE]
    split
    · exact digE_fuel s f g (a + 1) (by omega) (by omega)
    · rfl
/-- The place behind the digits from a on. -/
def digT (s : Bs) (a : Nat) : Nat := digE s s.length a
theorem digT_step {s : Bs} {a : Nat} (h : IsDg s a) : digT s a = digT s (a + 1) := by
  have h1 := h.1
  unfold digT
  rw [digE_fuel s s.length (s.length + 1) a (by omega) (by omega), digE, if_pos h]
theorem digT_stop {s : Bs} {a : Nat} (h : ¬ IsDg s a) : digT s a = a := by
  unfold digT
  rw [digE_fuel s s.length (s.length + 1) a (by omega) (by omega), digE, if_neg h]
theorem digT_le (s : Bs) (a : Nat) : a ≤ digT s a ∧ (a ≤ s.length → digT s a ≤ s.length) := digE_le s _ a
theorem digT_end {s : Bs} : ∀ (k a : Nat), (∀ i, i < k → IsDg s (a + i)) → ¬ IsDg s (a + k) → digT s a = a + k
  | 0, a, _, h => digT_stop h
  | k + 1, a, hd, h => by
    rw [digT_step (by have := hd 0 (by omega); exact this), digT_end k (a + 1) (fun i hi => by have := hd (i + 1) (by omega); rwa [Nat.add_right_comm, Nat.add_assoc a i 1]) (by rwa [Nat.add_right_comm, Nat.add_assoc a k 1])]
    omega
theorem digT_next {s : Bs} : ∀ (n a : Nat), s.length - a ≤ n → ¬ IsDg s (digT s a)
  | 0, a, hn => fun h => by
    have h1 := h.1
    have := (digT_le s a).1
    omega
  | n + 1, a, hn => by
    by_cases h : IsDg s a
    · rw [digT_step h]
      exact digT_next n (a + 1) (by omega)
    · rw [digT_stop h]
      exact h
/-- A hyphen or an x stands at a. -/
def IsX (s : Bs) (a : Nat) : Prop := a < s.length ∧ ((s.getD a 0).toNat = 45 ∨ (s.getD a 0).toNat = 120)
instance (s : Bs) (a : Nat) : Decidable (IsX s a) := by unfold IsX; infer_instance
/-- The place behind the change that begins at a. -/
def wE (s : Bs) (a : Nat) : Nat := if IsX s a then a + 1 else digT s a
theorem wE_le (s : Bs) (a : Nat) : a ≤ wE s a ∧ (a ≤ s.length → wE s a ≤ s.length) := by
  unfold wE
  split
  · rename_i h
    have := h.1
    omega
  · exact digT_le s a
theorem wE_x {s : Bs} {a : Nat} (h : IsX s a) : wE s a = a + 1 := if_pos h
theorem wE_d {s : Bs} {a : Nat} (h : ¬ IsX s a) : wE s a = digT s a := if_neg h
/-- An abbreviated change, completed; empty where there is none. -/
def tidy1 (s : Bs) : Bs := if s = [120] then [45] else s
def candL (n : Nat) (s : Bs) : List Bs := [tidy1 s, tidy1 s ++ [UInt8.ofNat (48 + n)], 49 :: tidy1 s, 49 :: (tidy1 s ++ [UInt8.ofNat (48 + n)])]
def tidyF (n : Nat) : List Bs → Bs
  | [] => []
  | c :: l => if IsChange n c then c else tidyF n l
def tidyL (n : Nat) (s : Bs) : Bs := tidyF n (candL n s)
theorem tidyF_change {n : Nat} : ∀ {l : List Bs}, tidyF n l ≠ [] → IsChange n (tidyF n l)
  | [], h => absurd rfl h
  | c :: l, h => by
    rw [tidyF] at h ⊢
    split
    · assumption
    · rename_i hc
      rw [if_neg hc] at h
      exact tidyF_change h
theorem tidyL_change {n : Nat} {s : Bs} (h : tidyL n s ≠ []) : IsChange n (tidyL n s) := tidyF_change h
theorem change_ne {n : Int} {c : Bs} (h : IsChange n c) : c ≠ [] := fun e => by have := h.len; rw [e] at this; simp at this
theorem change_len {n : Int} {c : Bs} (h : IsChange n c) : c.length ≤ 6 := by have := h.len; have := h.1; omega
theorem tidyL_len (n : Nat) (s : Bs) : (tidyL n s).length ≤ 6 := by
  by_cases h : tidyL n s = []
  · rw [h]; simp
  · exact change_len (tidyL_change h)
/-- A change is digits or a hyphen. -/
theorem change_digits {n : Int} {c : Bs} (h : IsChange n c) (h45 : c ≠ [45]) : ∀ i, i < c.length → 49 ≤ (c.getD i 0).toNat ∧ (c.getD i 0).toNat ≤ 56 := fun i hi => by
  obtain ⟨h1, h2 | ⟨h2, h3, h4, h5, h6⟩⟩ := h
  · exact absurd h2.1 h45
  · have hp := h4.par i hi
    have hm := h4.mono i (c.length - 1) (by omega) (by omega)
    omega
theorem tidyL_self {n : Nat} {c : Bs} (h : IsChange n c) : tidyL n c = c := by
  have h1 : tidy1 c = c := by
    unfold tidy1
    rw [if_neg]
    rintro rfl
    have := change_digits h (by decide) 0 (by decide)
    revert this
    decide
  unfold tidyL candL
  rw [h1, tidyF, if_pos h]
/-- The changes of a block from a on, and its end; or the place where it is wrong. -/
def blkN (n : Nat) (s : Bs) : Nat → Nat → List Bs → Sum Nat (List Bs × Nat)
  | 0, a, _ => .inl a
  | f + 1, a, acc =>
    if wE s a = a ∨ tidyL n ((s.take (wE s a)).drop a) = [] then .inl a
    else if s.length ≤ wE s a ∨ (s.getD (wE s a) 0).toNat = 44 then .inr (acc ++ [tidyL n ((s.take (wE s a)).drop a)], wE s a)
    else blkN n s f (if (s.getD (wE s a) 0).toNat = 46 then wE s a + 1 else wE s a) (acc ++ [tidyL n ((s.take (wE s a)).drop a)])
theorem blkN_end {n : Nat} {s : Bs} : ∀ {f a : Nat} {acc l : List Bs} {e : Nat}, a ≤ s.length → blkN n s f a acc = .inr (l, e) → (a < e ∧ e ≤ s.length) ∧ (s.length ≤ e ∨ (s.getD e 0).toNat = 44) ∧ acc.length < l.length ∧ l.length + a ≤ acc.length + e ∧ ((∀ c ∈ acc, IsChange n c) → ∀ c ∈ l, IsChange n c) := by
  intro f
  induction f with
  | zero => intro a acc l e _ h; cases h
  | succ f ih =>
    intro a acc l e ha h
    have hw := wE_le s a
    have hw2 := hw.2 ha
    rw [blkN] at h
    split at h
    · cases h
    · rename_i hne
      have hne1 : wE s a ≠ a := fun hh => hne (.inl hh)
      have hne2 : tidyL n ((s.take (wE s a)).drop a) ≠ [] := fun hh => hne (.inr hh)
      have hch := tidyL_change hne2
      have hmem : (∀ c ∈ acc, IsChange n c) → ∀ c ∈ acc ++ [tidyL n ((s.take (wE s a)).drop a)], IsChange n c := fun hc c hm => by
        rcases List.mem_append.1 hm with h1 | h1
        · exact hc c h1
        · rw [List.mem_singleton] at h1; rw [h1]; exact hch
      split at h
      · rename_i he
        simp only [Sum.inr.injEq, Prod.mk.injEq] at h
        obtain ⟨rfl, rfl⟩ := h
        rw [List.length_append, List.length_singleton]
        exact ⟨⟨by omega, hw2⟩, he, by omega, by omega, hmem⟩
      · rename_i he
        have hlt : wE s a < s.length := by
          rcases Nat.lt_or_ge (wE s a) s.length with h1 | h1
          · exact h1
          · exact absurd (.inl h1) he
        have := ih (by split <;> omega) h
        rw [List.length_append, List.length_singleton] at this
        obtain ⟨h1, h2, h3, h4, h5⟩ := this
        refine ⟨⟨?_, h1.2⟩, h2, by omega, ?_, fun hc => h5 (hmem hc)⟩
        · have := h1.1; split at this <;> omega
        · split at h4 <;> omega
theorem blkN_bad {n : Nat} {s : Bs} : ∀ {f a : Nat} {acc : List Bs} {p : Nat}, a ≤ s.length → blkN n s f a acc = .inl p → p ≤ s.length := by
  intro f
  induction f with
  | zero => intro a acc p ha h; cases h; exact ha
  | succ f ih =>
    intro a acc p ha h
    have hw2 := (wE_le s a).2 ha
    rw [blkN] at h
    split at h
    · cases h; exact ha
    · split at h
      · cases h
      · rename_i he
        have hlt : wE s a < s.length := by
          rcases Nat.lt_or_ge (wE s a) s.length with h1 | h1
          · exact h1
          · exact absurd (.inl h1) he
        exact ih (by split <;> omega) h
/-- The blocks from a on, or the place where they are wrong. -/
def rdN (n : Nat) (s : Bs) : Nat → Nat → List (List Bs) → Sum Nat (List (List Bs))
  | 0, a, _ => .inl a
  | f + 1, a, bs =>
    match blkN n s (s.length + 1) a [] with
    | .inl p => .inl p
    | .inr (l, e) => if s.length ≤ e then .inr (bs ++ [l]) else rdN n s f (e + 1) (bs ++ [l])
/-- A list and, behind it, all but the last of it in reverse order. -/
def mirL (l : List Bs) : List Bs := l ++ l.dropLast.reverse
theorem mirL_len (l : List Bs) : (mirL l).length = 2 * l.length - 1 := by
  unfold mirL
  rw [List.length_append, List.length_reverse, List.length_dropLast]; omega
def flatN (bs : List (List Bs)) : List Bs := if bs.length = 1 then bs.flatten else bs.flatMap mirL
/-- What a reading of a text gives: the changes, the error, its place. -/
def readN (n : Int) (s : Bs) : List Bs × Int × Int × Bool :=
  if ¬ (3 ≤ n ∧ n ≤ 8) then ([], 0, 0, false)
  else if s = [] ∨ 200 < s.length then ([], 1, 0, false)
  else match rdN n.toNat s (s.length + 1) 0 [] with
    | .inl p => ([], 2, p, false)
    | .inr bs => if 4 < bs.length ∨ 40 < (flatN bs).length then ([], 3, 0, false) else (flatN bs, 0, 0, true)
theorem mirL_mem {l : List Bs} {c : Bs} (h : c ∈ mirL l) : c ∈ l := by
  unfold mirL at h
  rcases List.mem_append.1 h with h1 | h1
  · exact h1
  · exact List.dropLast_subset _ (List.mem_reverse.1 h1)
theorem rdN_all {n : Nat} {s : Bs} : ∀ {f a : Nat} {bs out : List (List Bs)}, a ≤ s.length → rdN n s f a bs = .inr out → bs.length < out.length ∧ ((∀ l ∈ bs, 1 ≤ l.length ∧ ∀ c ∈ l, IsChange n c) → ∀ l ∈ out, 1 ≤ l.length ∧ ∀ c ∈ l, IsChange n c) := by
  intro f
  induction f with
  | zero => intro a bs out _ h; cases h
  | succ f ih =>
    intro a bs out ha h
    rw [rdN] at h
    split at h
    · cases h
    · rename_i l e hb
      obtain ⟨h1, h2, h3, h4, h5⟩ := blkN_end ha hb
      have hl : (∀ l ∈ bs, 1 ≤ l.length ∧ ∀ c ∈ l, IsChange n c) → ∀ x ∈ bs ++ [l], 1 ≤ x.length ∧ ∀ c ∈ x, IsChange n c := fun hh x hx => by
        rcases List.mem_append.1 hx with h6 | h6
        · exact hh x h6
        · rw [List.mem_singleton] at h6
          rw [h6]
          exact ⟨by simp at h3; omega, h5 (by simp)⟩
      split at h
      · simp only [Sum.inr.injEq] at h
        subst h
        exact ⟨by simp, hl⟩
      · have := ih (by omega) h
        rw [List.length_append, List.length_singleton] at this
        exact ⟨by omega, fun hh => this.2 (hl hh)⟩
/-- What is read well is 1 to 40 changes. -/
theorem readN_good {n : Int} {s : Bs} (h : (readN n s).2.2.2 = true) : (3 ≤ n ∧ n ≤ 8) ∧ (1 ≤ (readN n s).1.length ∧ (readN n s).1.length ≤ 40) ∧ (∀ c ∈ (readN n s).1, IsChange n c) ∧ (readN n s).2.1 = 0 ∧ (readN n s).2.2.1 = 0 := by
  unfold readN at h ⊢
  split at h
  · cases h
  · rename_i hn
    have hn : 3 ≤ n ∧ n ≤ 8 := Decidable.not_not.1 hn
    rw [if_neg (fun hh => hh hn)]
    split at h
    · cases h
    · rename_i hs
      rw [if_neg hs]
      split at h
      · cases h
      · rename_i bs hbs
        obtain ⟨h1, h2⟩ := rdN_all (Nat.zero_le _) hbs
        have h2 := h2 (by simp)
        split at h
        · cases h
        · rename_i hb
          have hcast : ((n.toNat : Nat) : Int) = n := by omega
          rw [hcast] at h2
          simp only [hbs, if_neg hb]
          refine ⟨hn, ⟨?_, by omega⟩, ?_, trivial, trivial⟩
          · have : bs ≠ [] := fun e => by rw [e] at h1; simp at h1
            obtain ⟨l, r, rfl⟩ := List.exists_cons_of_ne_nil this
            have hl := (h2 l (by simp)).1
            unfold flatN
            split
            · rw [List.flatten_cons, List.length_append]; omega
            · rw [List.flatMap_cons, List.length_append, mirL_len]; omega
          · intro c hc
            unfold flatN at hc
            split at hc
            · obtain ⟨l, hl, hcl⟩ := List.mem_flatten.1 hc
              exact (h2 l hl).2 c hcl
            · obtain ⟨l, hl, hcl⟩ := List.mem_flatMap.1 hc
              exact (h2 l hl).2 c (mirL_mem hcl)
theorem readN_bad {n : Int} {s : Bs} (h : ¬ (readN n s).2.2.2 = true) : (readN n s).1 = [] := by
  unfold readN at h ⊢
  split
  · rfl
  · split
    · rfl
    · split
      · rfl
      · split
        · rfl
        · rename_i hn hs _ bs hbs hb
          exact absurd (by rw [if_neg hn, if_neg hs]; simp only [hbs, if_neg hb]) h
/-! ### printing -/
def sepN (p c : Bs) : Bs := if c ≠ [45] ∧ p ≠ [45] then [46] else []
/-- The text behind the change p. -/
def txtR : Bs → List Bs → Bs
  | _, [] => []
  | p, c :: l => sepN p c ++ (c ++ txtR c l)
def txtL : List Bs → Bs
  | [] => []
  | c :: l => c ++ txtR c l
theorem txtR_snoc : ∀ (l : List Bs) (p c : Bs), txtR p (l ++ [c]) = txtR p l ++ (sepN ((p :: l).getLast (by simp)) c ++ c)
  | [], p, c => by simp [txtR]
  | d :: l, p, c => by
    rw [List.cons_append, txtR, txtR_snoc l d c, txtR]
    simp [List.append_assoc]
theorem getLast_getD (p : Bs) (l : List Bs) : (p :: l).getLast (by simp) = (p :: l).getD l.length [] := by
  rw [List.getLast_eq_getElem, List.getD_eq_getElem?_getD, List.getElem?_eq_getElem (by simp)]
  simp
theorem txtL_take {l : List Bs} {k : Nat} (hk : k < l.length) : txtL (l.take (k + 1)) = txtL (l.take k) ++ ((if 0 < k ∧ l.getD k [] ≠ [45] ∧ l.getD (k - 1) [] ≠ [45] then [46] else []) ++ l.getD k []) := by
  have hs : l.take (k + 1) = l.take k ++ [l.getD k []] := by
    rw [List.take_add_one, List.getElem?_eq_getElem hk, List.getD_eq_getElem?_getD, List.getElem?_eq_getElem hk]; rfl
  rw [hs]
  cases l with
  | nil => simp at hk
  | cons p l =>
    cases k with
    | zero => simp [txtL, txtR]
    | succ k =>
      have hk' : k < l.length := by simpa using hk
      rw [List.take_succ_cons, List.cons_append, txtL, txtR_snoc, txtL, getLast_getD, List.append_assoc, List.length_take, Nat.min_eq_left (by omega)]
      have e : (p :: l.take k).getD k [] = (p :: l).getD k [] := by
        cases k with
        | zero => rfl
        | succ k => rw [List.getD_cons_succ, List.getD_cons_succ, List.getD_eq_getElem?_getD, List.getD_eq_getElem?_getD, List.getElem?_take, if_pos (by omega)]
      rw [e]
      unfold sepN
      congr 2
      simp
theorem txtL_len {n : Int} : ∀ {l : List Bs} (_ : ∀ c ∈ l, IsChange n c), (txtL l).length ≤ 7 * l.length ∧ l.length ≤ (txtL l).length
  | [], _ => by simp [txtL]
  | c :: l, h => by
    have key : ∀ (l : List Bs) (p : Bs), (∀ c ∈ l, IsChange n c) → (txtR p l).length ≤ 7 * l.length ∧ l.length ≤ (txtR p l).length := by
      intro l
      induction l with
      | nil => intro p _; simp [txtR]
      | cons d l ih =>
        intro p hh
        have h1 := ih d fun c hc => hh c (List.mem_cons_of_mem _ hc)
        have h2 := change_len (hh d List.mem_cons_self)
        have h3 : 1 ≤ d.length := (hh d List.mem_cons_self).len.1
        have h4 : (sepN p d).length ≤ 1 := by unfold sepN; split <;> simp
        rw [txtR, List.length_append, List.length_append, List.length_cons]
        omega
    have h1 := key l c fun c hc => h c (List.mem_cons_of_mem _ hc)
    have h2 := change_len (h c List.mem_cons_self)
    have h3 : 1 ≤ c.length := (h c List.mem_cons_self).len.1
    rw [txtL, List.length_append, List.length_cons]
    omega
theorem txtL_ne {n : Int} {l : List Bs} (h : ∀ c ∈ l, IsChange n c) (h1 : 1 ≤ l.length) : txtL l ≠ [] := fun e => by
  have := (txtL_len h).2
  rw [e] at this
  simp at this
  subst this
  simp at h1
/-! ### reading what is printed -/
theorem getD_app_right (a b : Bs) (i : Nat) : (a ++ b).getD (a.length + i) 0 = b.getD i 0 := by
  rw [List.getD_eq_getElem?_getD, List.getElem?_append_right (by omega), Nat.add_sub_cancel_left, List.getD_eq_getElem?_getD]
theorem getD_app_left (a b : Bs) (i : Nat) (h : i < a.length) : (a ++ b).getD i 0 = a.getD i 0 := by
  rw [List.getD_eq_getElem?_getD, List.getElem?_append_left h, List.getD_eq_getElem?_getD]
/-- The next byte is none of a digit's. -/
def NoDg (r : Bs) : Prop := r = [] ∨ ¬ (48 ≤ (r.getD 0 0).toNat ∧ (r.getD 0 0).toNat ≤ 57)
theorem read_word {n : Nat} {pre c rest : Bs} (hc : IsChange n c) (hr : c = [45] ∨ NoDg rest) : wE (pre ++ (c ++ rest)) pre.length = pre.length + c.length ∧ tidyL n (((pre ++ (c ++ rest)).take (pre.length + c.length)).drop pre.length) = c := by
  have hcut : ((pre ++ (c ++ rest)).take (pre.length + c.length)).drop pre.length = c := by
    rw [← List.append_assoc, ← List.length_append, List.take_left, List.drop_left]
  refine ⟨?_, by rw [hcut]; exact tidyL_self hc⟩
  have h0 : 1 ≤ c.length := hc.len.1
  have hg : ∀ i, (pre ++ (c ++ rest)).getD (pre.length + i) 0 = (c ++ rest).getD i 0 := getD_app_right pre _
  by_cases h45 : c = [45]
  · subst h45
    rw [wE_x]
    · rfl
    · refine ⟨by simp, ?_⟩
      rw [show pre.length = pre.length + 0 from rfl, hg]
      exact .inl rfl
  · have hd := change_digits hc h45
    have hno := hr.resolve_left h45
    rw [wE_d]
    · refine digT_end c.length pre.length (fun i hi => ⟨by rw [List.length_append, List.length_append]; omega, ?_⟩) ?_
      · rw [hg, getD_app_left _ _ _ hi]
        have := hd i hi
        omega
      · rintro ⟨h1, h2⟩
        rw [hg, show c.length = c.length + 0 from rfl, getD_app_right] at h2
        rcases hno with h | h
        · subst h; simp at h1
        · exact h h2
    · rintro ⟨_, h2⟩
      rw [show pre.length = pre.length + 0 from rfl, hg, getD_app_left _ _ _ (by omega)] at h2
      have := hd 0 (by omega)
      omega
theorem change_x {n : Int} {c : Bs} (h : IsChange n c) : (c.getD 0 0).toNat ≠ 44 ∧ (c.getD 0 0).toNat ≠ 46 ∧ (c ≠ [45] → (c.getD 0 0).toNat ≠ 45) := by
  by_cases h45 : c = [45]
  · subst h45; exact ⟨by decide, by decide, fun h => absurd rfl h⟩
  · have := change_digits h h45 0 (by have := h.len.1; omega)
    exact ⟨by omega, by omega, fun _ => by omega⟩
/-- A printed list, up to its end or a comma, is read back. -/
theorem read_blk {n : Nat} {rest : Bs} (hrest : rest = [] ∨ ∃ r, rest = 44 :: r) : ∀ (l : List Bs) (c pre : Bs) (acc : List Bs) (f : Nat), (∀ x ∈ c :: l, IsChange n x) → l.length < f → blkN n (pre ++ (c ++ (txtR c l ++ rest))) f pre.length acc = .inr (acc ++ c :: l, pre.length + (c ++ txtR c l).length) := by
  have hrd : NoDg rest := by
    rcases hrest with h | ⟨r, h⟩
    · exact .inl h
    · rw [h]; exact .inr (by rw [List.getD_cons_zero]; decide)
  intro l
  induction l with
  | nil =>
    intro c pre acc f hch hf
    obtain ⟨f, rfl⟩ : ∃ g, f = g + 1 := ⟨f - 1, by simp at hf; omega⟩
    have hc := hch c List.mem_cons_self
    have h0 : 1 ≤ c.length := hc.len.1
    simp only [txtR, List.nil_append, List.append_nil]
    obtain ⟨h1, h2⟩ := read_word (n := n) (pre := pre) (rest := rest) hc (.inr hrd)
    rw [blkN, h1, h2, if_neg (by rintro (h | h); · omega
                                 · exact change_ne hc h), if_pos]
    rcases hrest with h | ⟨r, h⟩
    · left; rw [h]; simp
    · right
      rw [getD_app_right, show c.length = c.length + 0 from rfl, getD_app_right, h]
      rfl
  | cons d l ih =>
    intro c pre acc f hch hf
    obtain ⟨f, rfl⟩ : ∃ g, f = g + 1 := ⟨f - 1, by simp at hf; omega⟩
    have hc := hch c List.mem_cons_self
    have hd := hch d (List.mem_cons_of_mem _ List.mem_cons_self)
    have h0 : 1 ≤ c.length := hc.len.1
    have hdl : 1 ≤ d.length := hd.len.1
    have hx := change_x hd
    have hno : c = [45] ∨ NoDg (txtR c (d :: l) ++ rest) := by
      by_cases h45 : c = [45]
      · exact .inl h45
      · right; right
        rw [txtR]
        unfold sepN
        by_cases hd45 : d = [45]
        · rw [if_neg (fun h => h.1 hd45), hd45]; simp
        · rw [if_pos ⟨hd45, h45⟩]; simp
    obtain ⟨h1, h2⟩ := read_word (n := n) (pre := pre) (rest := txtR c (d :: l) ++ rest) hc hno
    rw [blkN, h1, h2, if_neg (by rintro (h | h); · omega
                                 · exact change_ne hc h)]
    have hg : (pre ++ (c ++ (txtR c (d :: l) ++ rest))).getD (pre.length + c.length) 0 = (txtR c (d :: l) ++ rest).getD 0 0 := by
      rw [getD_app_right, show c.length = c.length + 0 from rfl, getD_app_right]
    rw [hg]
    by_cases hs : d ≠ [45] ∧ c ≠ [45]
    · have e : txtR c (d :: l) ++ rest = 46 :: (d ++ (txtR d l ++ rest)) := by
        rw [txtR, sepN, if_pos hs]; simp [List.append_assoc]
      rw [e, if_neg, if_pos (by rfl)]
      · have ih := ih d (pre ++ (c ++ [46])) (acc ++ [c]) f (fun x hx => hch x (List.mem_cons_of_mem _ hx)) (by simp at hf; omega)
        have e2 : (pre ++ (c ++ [46])) ++ (d ++ (txtR d l ++ rest)) = pre ++ (c ++ 46 :: (d ++ (txtR d l ++ rest))) := by simp [List.append_assoc]
        have e3 : (pre ++ (c ++ [46])).length = pre.length + c.length + 1 := by simp; omega
        rw [e2, e3] at ih
        rw [ih]
        rw [txtR, sepN, if_pos hs]
        simp [List.append_assoc]
        omega
      · rintro (h | h)
        · simp at h; omega
        · rw [List.getD_cons_zero] at h; revert h; decide
    · have e : txtR c (d :: l) ++ rest = d ++ (txtR d l ++ rest) := by
        rw [txtR, sepN, if_neg hs]; simp [List.append_assoc]
      have eg : (txtR c (d :: l) ++ rest).getD 0 0 = d.getD 0 0 := by rw [e, getD_app_left _ _ _ (by omega)]
      rw [eg, if_neg, if_neg hx.2.1]
      · have ih := ih d (pre ++ c) (acc ++ [c]) f (fun x hx => hch x (List.mem_cons_of_mem _ hx)) (by simp at hf; omega)
        have e2 : (pre ++ c) ++ (d ++ (txtR d l ++ rest)) = pre ++ (c ++ (txtR c (d :: l) ++ rest)) := by rw [e]; simp [List.append_assoc]
        rw [e2, List.length_append] at ih
        rw [ih]
        rw [txtR, sepN, if_neg hs]
        simp [List.append_assoc]
        omega
      · rintro (h | h)
        · rw [e] at h; simp at h; omega
        · exact hx.1 h
theorem read_one {n : Nat} {l : List Bs} (h : ∀ c ∈ l, IsChange n c) (h1 : 1 ≤ l.length) : rdN n (txtL l) ((txtL l).length + 1) 0 [] = .inr [l] := by
  cases l with
  | nil => simp at h1
  | cons c l =>
    have hb := read_blk (rest := []) (.inl rfl) l c [] [] ((txtL (c :: l)).length + 1) h (by have := (txtL_len h).2; simp at this; omega)
    simp only [List.nil_append, List.append_nil, List.length_nil, Nat.zero_add] at hb
    rw [rdN, show txtL (c :: l) = c ++ txtR c l from rfl]
    rw [show txtL (c :: l) = c ++ txtR c l from rfl] at hb
    rw [hb]
    simp
theorem read_two {n : Nat} {l r : List Bs} (hl : ∀ c ∈ l, IsChange n c) (h1 : 1 ≤ l.length) (hr : ∀ c ∈ r, IsChange n c) (h2 : 1 ≤ r.length) : rdN n (txtL l ++ 44 :: txtL r) ((txtL l ++ 44 :: txtL r).length + 1) 0 [] = .inr [l, r] := by
  cases l with
  | nil => simp at h1
  | cons c l =>
  cases r with
  | nil => simp at h2
  | cons d r =>
    have el : txtL (c :: l) = c ++ txtR c l := rfl
    have er : txtL (d :: r) = d ++ txtR d r := rfl
    have hb := read_blk (n := n) (rest := 44 :: txtL (d :: r)) (.inr ⟨_, rfl⟩) l c [] [] ((txtL (c :: l) ++ 44 :: txtL (d :: r)).length + 1) hl (by have := (txtL_len hl).2; simp at this; simp; omega)
    have hb2 := read_blk (n := n) (rest := []) (.inl rfl) r d (txtL (c :: l) ++ [44]) [] ((txtL (c :: l) ++ 44 :: txtL (d :: r)).length + 1) hr (by have := (txtL_len hr).2; simp at this; simp; omega)
    simp only [List.nil_append, List.append_nil, List.length_nil, Nat.zero_add] at hb hb2
    have e1 : c ++ (txtR c l ++ 44 :: txtL (d :: r)) = txtL (c :: l) ++ 44 :: txtL (d :: r) := by rw [el]; simp [List.append_assoc]
    have e2 : txtL (c :: l) ++ [44] ++ (d ++ txtR d r) = txtL (c :: l) ++ 44 :: txtL (d :: r) := by rw [er]; simp [List.append_assoc]
    rw [e1] at hb
    rw [e2] at hb2
    have e3 : (txtL (c :: l) ++ [44]).length = (c ++ txtR c l).length + 1 := by rw [el]; simp; omega
    rw [e3] at hb2
    generalize hS : txtL (c :: l) ++ 44 :: txtL (d :: r) = s at *
    have hlen : s.length = (c ++ txtR c l).length + 1 + (d ++ txtR d r).length := by rw [← hS, el, er]; simp; omega
    obtain ⟨f, hf⟩ : ∃ f, s.length = f + 1 := ⟨s.length - 1, by omega⟩
    rw [rdN, hb]
    simp only
    rw [if_neg (by omega), hf, rdN, hb2]
    simp only
    rw [if_pos (by omega)]
    rfl
end Go.Proofs.Ytfklonhjgkahdaa
