/-
  Orbits of places under rows: by labels that spread, and as the group's orbits. No program.
  Conditions: none.
-/
import Derived.Test.YthopbkemkfjebaaKPz
set_option linter.unusedSimpArgs false
set_option linter.unusedVariables false
set_option linter.defProp false
namespace Go.Proofs.Ythopbkemkfjebaa
open Go
/-- p and q are joined by generators, forth and back. -/
inductive Conn (gens : List Bs) (n : Nat) : Nat → Nat → Prop
  | refl (p : Nat) : Conn gens n p p
  | fwd {p q : Nat} {g : Bs} : Conn gens n p q → g ∈ gens → q < n → Conn gens n p (bell g q)
  | bwd {p q : Nat} {g : Bs} : Conn gens n p (bell g q) → g ∈ gens → q < n → Conn gens n p q
section
variable {gens : List Bs} {n : Nat}
theorem Conn.trans {p q r : Nat} (h : Conn gens n p q) (k : Conn gens n q r) : Conn gens n p r := by
  induction k with
  | refl => exact h
  | fwd _ hg hq ih => exact .fwd ih hg hq
  | bwd _ hg hq ih => exact .bwd ih hg hq
theorem Conn.symm {p q : Nat} (h : Conn gens n p q) : Conn gens n q p := by
  induction h with
  | refl => exact .refl _
  | fwd _ hg hq ih => exact (Conn.bwd (.refl _) hg hq).trans ih
  | bwd _ hg hq ih => exact (Conn.fwd (.refl _) hg hq).trans ih
theorem Conn.lt (hg : ∀ g ∈ gens, IsRow g ∧ g.length = n) {p q : Nat} (hp : p < n) (h : Conn gens n p q) : q < n := by
  induction h with
  | refl => exact hp
  | fwd _ hm hq _ => have := (hg _ hm).1.bell_lt (i := _) (by rw [(hg _ hm).2]; exact hq); rwa [(hg _ hm).2] at this
  | bwd _ _ hq _ => exact hq
/-- One step of the spreading. -/
def stepP (P : List Nat) (g : Bs) (p : Nat) : List Nat := (P.set p (min (P.getD p 0) (P.getD (bell g p) 0))).set (bell g p) (min (P.getD p 0) (P.getD (bell g p) 0))
theorem stepP_len (P : List Nat) (g : Bs) (p : Nat) : (stepP P g p).length = P.length := by simp [stepP]
theorem stepP_get (P : List Nat) (g : Bs) (p q : Nat) (hq : q < P.length) : (stepP P g p).getD q 0 = if q = p ∨ q = bell g p then min (P.getD p 0) (P.getD (bell g p) 0) else P.getD q 0 := by
  unfold stepP
  rw [getD_set, getD_set, List.length_set]
  by_cases h1 : bell g p = q
  · rw [if_pos ⟨h1, hq⟩, if_pos (.inr h1.symm)]
  · rw [if_neg (fun h => h1 h.1)]
    by_cases h2 : p = q
    · rw [if_pos ⟨h2, hq⟩, if_pos (.inl h2.symm)]
    · rw [if_neg (fun h => h2 h.1), if_neg (by rintro (h | h); exact h2 h.symm; exact h1 h.symm)]
/-- Labels: each is joined to its place, and no greater. -/
structure Lab (gens : List Bs) (n : Nat) (P : List Nat) : Prop where
  len : P.length = n
  conn : ∀ p, p < n → Conn gens n p (P.getD p 0)
  le : ∀ p, p < n → P.getD p 0 ≤ p
theorem Lab.start : Lab gens n (List.range n) :=
  ⟨List.length_range, fun p hp => by rw [getD_range _ _ _ hp]; exact .refl _, fun p hp => by rw [getD_range _ _ _ hp]; exact Nat.le_refl _⟩
theorem edge_lt (hg : ∀ g ∈ gens, IsRow g ∧ g.length = n) {g : Bs} (hm : g ∈ gens) {p : Nat} (hp : p < n) : bell g p < n := (Conn.fwd (.refl p) hm hp).lt hg hp
theorem Lab.min_conn {P : List Nat} (h : Lab gens n P) (hg : ∀ g ∈ gens, IsRow g ∧ g.length = n) {g : Bs} (hm : g ∈ gens) {p : Nat} (hp : p < n) : Conn gens n p (min (P.getD p 0) (P.getD (bell g p) 0)) := by
  have h1 := h.conn p hp
  have h2 := (Conn.fwd (.refl p) hm hp).trans (h.conn _ (edge_lt hg hm hp))
  rcases Nat.le_total (P.getD p 0) (P.getD (bell g p) 0) with hl | hl
  · rw [Nat.min_eq_left hl]; exact h1
  · rw [Nat.min_eq_right hl]; exact h2
theorem Lab.step {P : List Nat} (h : Lab gens n P) (hg : ∀ g ∈ gens, IsRow g ∧ g.length = n) {g : Bs} (hm : g ∈ gens) {p : Nat} (hp : p < n) : Lab gens n (stepP P g p) := by
  have hc := h.min_conn hg hm hp
  have he := edge_lt hg hm hp
  refine ⟨by rw [stepP_len, h.len], fun q hq => ?_, fun q hq => ?_⟩
  · rw [stepP_get _ _ _ _ (by rw [h.len]; exact hq)]
    split
    · rename_i hh
      rcases hh with rfl | rfl
      · exact hc
      · exact (Conn.bwd (.refl _) hm hp).trans hc
    · exact h.conn q hq
  · rw [stepP_get _ _ _ _ (by rw [h.len]; exact hq)]
    split
    · rename_i hh
      rcases hh with rfl | rfl
      · exact Nat.le_trans (Nat.min_le_left _ _) (h.le _ hq)
      · exact Nat.le_trans (Nat.min_le_right _ _) (h.le _ hq)
    · exact h.le q hq
/-- c is the least of those that are joined to it. -/
def Minl (gens : List Bs) (n c : Nat) : Prop := c < n ∧ ∀ q, Conn gens n c q → c ≤ q
theorem Lab.low {P : List Nat} (h : Lab gens n P) {c q r : Nat} (hc : Minl gens n c) (hq : q < n) (he : P.getD q 0 = c) (hr : r < n) (hqr : Conn gens n q r) : c ≤ P.getD r 0 := by
  refine hc.2 _ ?_
  have h1 := (h.conn q hq).symm
  rw [he] at h1
  exact (h1.trans hqr).trans (h.conn r hr)
theorem Lab.both {P : List Nat} (h : Lab gens n P) (hg : ∀ g ∈ gens, IsRow g ∧ g.length = n) {g : Bs} (hm : g ∈ gens) {p c : Nat} (hp : p < n) (hc : Minl gens n c) (he : P.getD p 0 = c ∨ P.getD (bell g p) 0 = c) : (stepP P g p).getD p 0 = c ∧ (stepP P g p).getD (bell g p) 0 = c := by
  have hb := edge_lt hg hm hp
  have key : min (P.getD p 0) (P.getD (bell g p) 0) = c := by
    rcases he with he | he
    · have := h.low hc hp he hb (.fwd (.refl p) hm hp)
      rw [he]; omega
    · have := h.low hc hb he hp (.bwd (.refl _) hm hp)
      rw [he]; omega
  rw [stepP_get _ _ _ _ (by rw [h.len]; exact hp), stepP_get _ _ _ _ (by rw [h.len]; exact hb), if_pos (.inl rfl), if_pos (.inr rfl)]
  exact ⟨key, key⟩
theorem Lab.stay {P : List Nat} (h : Lab gens n P) (hg : ∀ g ∈ gens, IsRow g ∧ g.length = n) {g : Bs} (hm : g ∈ gens) {p c q : Nat} (hp : p < n) (hc : Minl gens n c) (hq : q < n) (he : P.getD q 0 = c) : (stepP P g p).getD q 0 = c := by
  by_cases hh : q = p ∨ q = bell g p
  · rcases hh with rfl | rfl
    · exact (h.both hg hm hp hc (.inl he)).1
    · exact (h.both hg hm hp hc (.inr he)).2
  · rw [stepP_get _ _ _ _ (by rw [h.len]; exact hq), if_neg hh]
    exact he
/-- All steps of one row, the first m places. -/
def stepsG (g : Bs) (P : List Nat) (m : Nat) : List Nat := (List.range m).foldl (fun P p => stepP P g p) P
theorem stepsG_succ (g : Bs) (P : List Nat) (m : Nat) : stepsG g P (m + 1) = stepP (stepsG g P m) g m := by
  unfold stepsG
  rw [List.range_succ, List.foldl_append]
  rfl
/-- What a stretch of steps leaves: labels, and labels that are least stay. -/
def Keeps (gens : List Bs) (n : Nat) (P Q : List Nat) : Prop := Lab gens n Q ∧ ∀ c q, Minl gens n c → q < n → P.getD q 0 = c → Q.getD q 0 = c
theorem Keeps.trans {P Q R : List Nat} (h : Keeps gens n P Q) (k : Keeps gens n Q R) : Keeps gens n P R := ⟨k.1, fun c q hc hq he => k.2 c q hc hq (h.2 c q hc hq he)⟩
theorem stepsG_ok (hg : ∀ g ∈ gens, IsRow g ∧ g.length = n) {g : Bs} (hm : g ∈ gens) {P : List Nat} (h : Lab gens n P) : ∀ m, m ≤ n → Keeps gens n P (stepsG g P m) ∧ ∀ p c, p < m → Minl gens n c → (P.getD p 0 = c ∨ P.getD (bell g p) 0 = c) → (stepsG g P m).getD p 0 = c ∧ (stepsG g P m).getD (bell g p) 0 = c := by
  intro m
  induction m with
  | zero => intro _; exact ⟨⟨h, fun _ _ _ _ he => he⟩, fun p c hp => absurd hp (Nat.not_lt_zero p)⟩
  | succ m ih =>
    intro hn
    obtain ⟨h1, h2⟩ := ih (by omega)
    rw [stepsG_succ]
    have hk : Keeps gens n (stepsG g P m) (stepP (stepsG g P m) g m) := ⟨h1.1.step hg hm (by omega), fun c q hc hq he => h1.1.stay hg hm (by omega) hc hq he⟩
    refine ⟨h1.trans hk, fun p c hp hc he => ?_⟩
    have hb := edge_lt hg hm (show p < n by omega)
    by_cases hpm : p = m
    · subst hpm
      exact h1.1.both hg hm (by omega) hc (he.imp (h1.2 c p hc (by omega)) (h1.2 c _ hc hb))
    · have := h2 p c (by omega) hc he
      exact ⟨hk.2 c p hc (by omega) this.1, hk.2 c _ hc hb this.2⟩
/-- All steps of some rows. -/
def stepsR (n : Nat) (gs : List Bs) (P : List Nat) : List Nat := gs.foldl (fun P g => stepsG g P n) P
theorem stepsR_snoc (n : Nat) (gs : List Bs) (g : Bs) (P : List Nat) : stepsR n (gs ++ [g]) P = stepsG g (stepsR n gs P) n := by
  unfold stepsR
  rw [List.foldl_append]
  rfl
theorem stepsR_ok (hg : ∀ g ∈ gens, IsRow g ∧ g.length = n) : ∀ (gs : List Bs), (∀ g ∈ gs, g ∈ gens) → ∀ {P : List Nat}, Lab gens n P → Keeps gens n P (stepsR n gs P) ∧ ∀ g ∈ gs, ∀ p c, p < n → Minl gens n c → (P.getD p 0 = c ∨ P.getD (bell g p) 0 = c) → (stepsR n gs P).getD p 0 = c ∧ (stepsR n gs P).getD (bell g p) 0 = c := by
  intro gs
  induction gs with
  | nil => intro _ P h; exact ⟨⟨h, fun _ _ _ _ he => he⟩, fun g hm => by cases hm⟩
  | cons g gs ih =>
    intro hs P h
    have hm := hs g List.mem_cons_self
    obtain ⟨h1, h2⟩ := stepsG_ok hg hm h n (Nat.le_refl _)
    obtain ⟨h3, h4⟩ := ih (fun x hx => hs x (List.mem_cons_of_mem _ hx)) h1.1
    have e : stepsR n (g :: gs) P = stepsR n gs (stepsG g P n) := rfl
    rw [e]
    refine ⟨h1.trans h3, fun x hx p c hp hc he => ?_⟩
    rcases List.mem_cons.1 hx with rfl | hx
    · have := h2 p c hp hc he
      exact ⟨h3.2 c p hc hp this.1, h3.2 c _ hc (edge_lt hg hm hp) this.2⟩
    · exact h4 x hx p c hp hc (he.imp (h1.2 c p hc hp) (h1.2 c _ hc (edge_lt hg (hs x (List.mem_cons_of_mem _ hx)) hp)))
/-- The labels after k rounds. -/
def labK (gens : List Bs) (n : Nat) : Nat → List Nat
  | 0 => List.range n
  | k + 1 => stepsR n gens (labK gens n k)
def cntP (n : Nat) (P : List Nat) (c : Nat) : Nat := ((List.range n).filter fun q => decide (P.getD q 0 = c)).length
theorem labK_ok (hg : ∀ g ∈ gens, IsRow g ∧ g.length = n) : ∀ k, Lab gens n (labK gens n k)
  | 0 => Lab.start
  | k + 1 => ((stepsR_ok hg gens (fun _ h => h) (labK_ok hg k)).1).1
theorem labK_full (hg : ∀ g ∈ gens, IsRow g ∧ g.length = n) {c : Nat} (hc : Minl gens n c) : ∀ k, (∀ q, Conn gens n c q → (labK gens n k).getD q 0 = c) ∨ k + 1 ≤ cntP n (labK gens n k) c := by
  intro k
  induction k with
  | zero =>
    right
    unfold cntP
    refine List.length_pos_of_mem (a := c) (List.mem_filter.2 ⟨List.mem_range.2 hc.1, ?_⟩)
    rw [labK, getD_range _ _ _ hc.1]
    simp
  | succ k ih =>
    have hL := labK_ok hg k
    obtain ⟨h1, h2⟩ := stepsR_ok hg gens (fun _ h => h) hL
    rw [labK]
    rcases ih with ih | ih
    · left
      intro q hq
      exact h1.2 c q hc (hq.lt hg hc.1) (ih q hq)
    · by_cases hall : ∀ p, p < n → ∀ g ∈ gens, ((labK gens n k).getD p 0 = c ↔ (labK gens n k).getD (bell g p) 0 = c)
      · left
        intro q hq
        refine h1.2 c q hc (hq.lt hg hc.1) ?_
        induction hq with
        | refl =>
          have h3 := hL.le c hc.1
          have h4 := hc.2 _ (hL.conn c hc.1)
          omega
        | fwd hq hm hlt ih => exact (hall _ hlt _ hm).1 ih
        | bwd hq hm hlt ih => exact (hall _ hlt _ hm).2 ih
      · right
        obtain ⟨p, hp, g, hm, hne⟩ : ∃ p, p < n ∧ ∃ g, g ∈ gens ∧ ¬ ((labK gens n k).getD p 0 = c ↔ (labK gens n k).getD (bell g p) 0 = c) := by
          refine Classical.byContradiction fun hno => hall fun p hp g hm => Classical.byContradiction fun hx => hno ⟨p, hp, g, hm, hx⟩
        have hb := edge_lt hg hm hp
        obtain ⟨q, hq, hq1, hq2⟩ : ∃ q, q < n ∧ (labK gens n k).getD q 0 ≠ c ∧ (stepsR n gens (labK gens n k)).getD q 0 = c := by
          by_cases h3 : (labK gens n k).getD p 0 = c
          · have h4 : (labK gens n k).getD (bell g p) 0 ≠ c := fun h4 => hne ⟨fun _ => h4, fun _ => h3⟩
            exact ⟨_, hb, h4, (h2 g hm p c hp hc (.inl h3)).2⟩
          · have h4 : (labK gens n k).getD (bell g p) 0 = c := Classical.byContradiction fun h4 => hne ⟨fun h => absurd h h3, fun h => absurd h h4⟩
            exact ⟨_, hp, h3, (h2 g hm p c hp hc (.inr h4)).1⟩
        have hsub := sub_lenP (A := q :: (List.range n).filter fun q => decide ((labK gens n k).getD q 0 = c)) (B := (List.range n).filter fun q => decide ((stepsR n gens (labK gens n k)).getD q 0 = c))
          (List.nodup_cons.2 ⟨fun hh => hq1 (by simpa using (List.mem_filter.1 hh).2), List.nodup_range.filter _⟩) (fun x hx => by
            rcases List.mem_cons.1 hx with rfl | hx
            · exact List.mem_filter.2 ⟨List.mem_range.2 hq, by simpa using hq2⟩
            · have h5 := List.mem_filter.1 hx
              have h6 := List.mem_range.1 h5.1
              exact List.mem_filter.2 ⟨h5.1, by simpa using h1.2 c x hc h6 (by simpa using h5.2)⟩)
        rw [List.length_cons] at hsub
        unfold cntP at ih ⊢
        omega
/-- The labels at the end. -/
def labF (gens : List Bs) (n : Nat) : List Nat := labK gens n n
theorem min_ex {Q : Nat → Prop} : ∀ m, (∃ q, q ≤ m ∧ Q q) → ∃ c, Q c ∧ ∀ q, Q q → c ≤ q := by
  intro m
  induction m with
  | zero => rintro ⟨q, hq, h⟩; obtain rfl : q = 0 := by omega
            exact ⟨0, h, fun _ _ => Nat.zero_le _⟩
  | succ m ih =>
    rintro ⟨q, hq, h⟩
    by_cases hs : ∃ q, q ≤ m ∧ Q q
    · exact ih hs
    · refine ⟨q, h, fun r hr => ?_⟩
      rcases Nat.lt_or_ge r q with h1 | h1
      · exact absurd ⟨r, by omega, hr⟩ hs
      · exact h1
theorem labF_min (hg : ∀ g ∈ gens, IsRow g ∧ g.length = n) {p : Nat} (hp : p < n) : ∀ q, Conn gens n p q → (labF gens n).getD q 0 = (labF gens n).getD p 0 ∧ (labF gens n).getD p 0 ≤ q := by
  obtain ⟨c, h1, h2⟩ := min_ex (Q := Conn gens n p) p ⟨p, Nat.le_refl _, .refl _⟩
  have hc : Minl gens n c := ⟨h1.lt hg hp, fun q hq => h2 q (h1.trans hq)⟩
  have hf : ∀ q, Conn gens n c q → (labF gens n).getD q 0 = c := by
    rcases labK_full hg hc n with h | h
    · exact h
    · have : cntP n (labK gens n n) c ≤ n := by
        unfold cntP
        refine Nat.le_trans (List.length_filter_le _ _) ?_
        rw [List.length_range]; exact Nat.le_refl _
      omega
  intro q hq
  have h3 := hf p h1.symm
  have h4 := hf q (h1.symm.trans hq)
  exact ⟨by rw [h3, h4], by rw [h3]; exact h2 q hq⟩
theorem labF_conn (hg : ∀ g ∈ gens, IsRow g ∧ g.length = n) {p q : Nat} (hp : p < n) (hq : q < n) : Conn gens n p q ↔ (labF gens n).getD q 0 = (labF gens n).getD p 0 := by
  have hL := labK_ok hg n
  refine ⟨fun h => (labF_min hg hp q h).1, fun h => ?_⟩
  have h1 := hL.conn p hp
  have h2 := hL.conn q hq
  have h : (labK gens n n).getD q 0 = (labK gens n n).getD p 0 := h
  rw [h] at h2
  exact h1.trans h2.symm
theorem labF_step (hg : ∀ g ∈ gens, IsRow g ∧ g.length = n) {g : Bs} (hm : g ∈ gens) {p : Nat} (hp : p < n) : (labF gens n).getD (bell g p) 0 = (labF gens n).getD p 0 := (labF_min hg hp _ (.fwd (.refl p) hm hp)).1
theorem labF_self (hg : ∀ g ∈ gens, IsRow g ∧ g.length = n) {p : Nat} (hp : p < n) : (labF gens n).getD p 0 ≤ p ∧ (labF gens n).getD ((labF gens n).getD p 0) 0 = (labF gens n).getD p 0 :=
  ⟨(labK_ok hg n).le p hp, (labF_min hg hp _ ((labK_ok hg n).conn p hp)).1⟩
/-- The places of a label. -/
def clsN (P : List Nat) (n c : Nat) : List Nat := (List.range n).filter fun q => decide (P.getD q 0 = c)
def clsL (P : List Nat) (n c : Nat) : List Int := (clsN P n c).map fun q : Nat => (q : Int) + 1
theorem clsN_mem (P : List Nat) (n c q : Nat) : q ∈ clsN P n c ↔ q < n ∧ P.getD q 0 = c := by
  unfold clsN
  rw [List.mem_filter, List.mem_range]
  simp
theorem clsN_nodup (P : List Nat) (n c : Nat) : (clsN P n c).Nodup := List.nodup_range.filter _
/-- The orbits with a least place below k. -/
def orbK (P : List Nat) (n k : Nat) : List (List Int) := (List.range k).flatMap fun c => if clsN P n c = [] then [] else [clsL P n c]
theorem orbK_succ (P : List Nat) (n k : Nat) : orbK P n (k + 1) = orbK P n k ++ if clsN P n k = [] then [] else [clsL P n k] := by
  unfold orbK
  rw [List.range_succ, List.flatMap_append, List.flatMap_cons, List.flatMap_nil, List.append_nil]
theorem orbK_mem {P : List Nat} {n k : Nat} {l : List Int} (h : l ∈ orbK P n k) : ∃ c, c < k ∧ clsN P n c ≠ [] ∧ l = clsL P n c := by
  unfold orbK at h
  obtain ⟨c, hc, hl⟩ := List.mem_flatMap.1 h
  split at hl
  · cases hl
  · rename_i hne
    exact ⟨c, List.mem_range.1 hc, hne, by simpa using hl⟩
theorem cls_first (hg : ∀ g ∈ gens, IsRow g ∧ g.length = n) {c : Nat} (hc : c < n) : clsN (labF gens n) n c = [] ↔ (labF gens n).getD c 0 ≠ c := by
  constructor
  · intro h he
    have : c ∈ clsN (labF gens n) n c := (clsN_mem _ _ _ _).2 ⟨hc, he⟩
    rw [h] at this
    cases this
  · intro h
    rw [List.eq_nil_iff_forall_not_mem]
    intro q hq
    obtain ⟨h1, h2⟩ := (clsN_mem _ _ _ _).1 hq
    have := (labF_self hg h1).2
    rw [h2] at this
    exact h this
/-- A set that is closed forth is closed back. -/
theorem closed_all (hg : ∀ g ∈ gens, IsRow g ∧ g.length = n) {O : List Nat} (hn : O.Nodup) (hl : ∀ q ∈ O, q < n) (hc : ∀ q ∈ O, ∀ g ∈ gens, bell g q ∈ O) {i : Nat} (hi : i ∈ O) : ∀ q, Conn gens n i q → q ∈ O := by
  intro q hq
  induction hq with
  | refl => exact hi
  | fwd _ hm _ ih => exact hc _ ih _ hm
  | @bwd q g _ hm hlt ih =>
    have hr := hg g hm
    have hinj : ∀ x ∈ O, ∀ y ∈ O, bell g x = bell g y → x = y := fun x hx y hy e => hr.1.inj' (by rw [hr.2]; exact hl x hx) (by rw [hr.2]; exact hl y hy) e
    have hmap : (O.map (bell g)).Nodup := map_nodup hn hinj
    have := sub_all hmap (fun x hx => by obtain ⟨y, hy, rfl⟩ := List.mem_map.1 hx; exact hc y hy g hm) (by rw [List.length_map]; exact Nat.le_refl _) ih
    obtain ⟨y, hy, e⟩ := List.mem_map.1 this
    have : y = q := hr.1.inj' (by rw [hr.2]; exact hl y hy) (by rw [hr.2]; exact hlt) e
    rw [← this]
    exact hy
theorem closed_cls (hg : ∀ g ∈ gens, IsRow g ∧ g.length = n) {O : List Nat} (hn : O.Nodup) {i : Nat} (hlt : i < n) (hl : ∀ q ∈ O, q < n ∧ (labF gens n).getD q 0 = (labF gens n).getD i 0) (hc : ∀ q ∈ O, ∀ g ∈ gens, bell g q ∈ O) (hi : i ∈ O) : ∀ q, q ∈ O ↔ q ∈ clsN (labF gens n) n ((labF gens n).getD i 0) := fun q => by
  rw [clsN_mem]
  exact ⟨hl q, fun h => closed_all hg hn (fun q hq => (hl q hq).1) hc hi q ((labF_conn hg hlt h.1).2 h.2)⟩
theorem zero_sumN (l : List Nat) : (l.map fun _ => 0).sum = 0 := by
  induction l with
  | nil => rfl
  | cons a l ih => rw [List.map_cons, List.sum_cons, ih]
/-- All places are in some orbit, each in one. -/
theorem one_sum (n a : Nat) (h : a < n) : ((List.range n).map fun c => if a = c then 1 else 0).sum = 1 := by
  induction n with
  | zero => omega
  | succ n ih =>
    rw [List.range_succ, List.map_append, List.sum_append]
    by_cases e : a = n
    · subst e
      have : ((List.range a).map fun c => if a = c then 1 else 0).sum = 0 := by
        have : ((List.range a).map fun c => if a = c then 1 else 0) = (List.range a).map fun _ => 0 := List.map_congr_left fun c hc => by rw [if_neg]; have := List.mem_range.1 hc; omega
        rw [this]
        exact zero_sumN _
      rw [this]; simp
    · rw [ih (by omega)]; simp [e]
theorem cls_sum (P : List Nat) (n : Nat) : ∀ (l : List Nat), (∀ q ∈ l, P.getD q 0 < n) → ((List.range n).map fun c => (l.filter fun q => decide (P.getD q 0 = c)).length).sum = l.length := by
  intro l
  induction l with
  | nil => intro _; exact zero_sumN _
  | cons a l ih =>
    intro h
    have h1 := ih fun q hq => h q (List.mem_cons_of_mem _ hq)
    have h2 := one_sum n (P.getD a 0) (h a List.mem_cons_self)
    have e : ((List.range n).map fun c => ((a :: l).filter fun q => decide (P.getD q 0 = c)).length) = (List.range n).map fun c => (if P.getD a 0 = c then 1 else 0) + (l.filter fun q => decide (P.getD q 0 = c)).length := List.map_congr_left fun c _ => by
      by_cases hc : P.getD a 0 = c
      · rw [List.filter_cons_of_pos (by simpa using hc), List.length_cons, if_pos hc]; omega
      · rw [List.filter_cons_of_neg (by simpa using hc), if_neg hc]; omega
    have add : ∀ (r : List Nat) (f g : Nat → Nat), (r.map fun c => f c + g c).sum = (r.map f).sum + (r.map g).sum := by
      intro r f g
      induction r with
      | nil => rfl
      | cons x r ih => simp only [List.map_cons, List.sum_cons, ih]; omega
    rw [e, add, h1, h2, List.length_cons]
    omega
def metK (O : List (List Int)) (k : Nat) : Nat := ((O.take k).map List.length).sum
theorem orb_sum (hg : ∀ g ∈ gens, IsRow g ∧ g.length = n) : ((orbK (labF gens n) n n).map List.length).sum = n := by
  have key : ∀ k, ((orbK (labF gens n) n k).map List.length).sum = ((List.range k).map fun c => (clsN (labF gens n) n c).length).sum := by
    intro k
    induction k with
    | zero => rfl
    | succ k ih =>
      rw [orbK_succ, List.map_append, List.sum_append, ih, List.range_succ, List.map_append, List.sum_append]
      congr 1
      split
      · rename_i h; rw [List.map_cons, h]; rfl
      · simp [clsL]
  rw [key]
  have := cls_sum (labF gens n) n (List.range n) (fun q hq => by have h1 := List.mem_range.1 hq; have := (labF_self hg h1).1; omega)
  rw [List.length_range] at this
  exact this
/-- The size of an orbit divides the order of the group. -/
theorem orb_dvd (hn : 3 ≤ n ∧ n ≤ 8) (hg : ∀ g ∈ gens, IsRow g ∧ g.length = n) {G : List Bs} (hG : IsGrp n G) (hs : ∀ g ∈ gens, g ∈ G) (hc : ∀ x ∈ G, x ∈ clo gens (roundsL n) G.length) {i : Nat} (hi : i < n) : (clsN (labF gens n) n ((labF gens n).getD i 0)).length ∣ G.length := by
  have hx : ∀ x ∈ G, ∀ q, q < n → Conn gens n i q → Conn gens n i (bell x q) := fun x hx => by
    refine clo_all (p := fun x => ∀ q, q < n → Conn gens n i q → Conn gens n i (bell x q)) (fun q hq h => by rw [roundsL_bell n q hn.2 hq]; exact h) (fun a ha g hm q hq h => ?_) G.length x (hc x hx)
    have hb := edge_lt hg hm hq
    rw [timesL_bell a g q (by rw [(hg g hm).2]; exact hq)]
    exact ha _ hb (.fwd h hm hq)
  have hmem : ∀ x ∈ G, bell x i ∈ clsN (labF gens n) n ((labF gens n).getD i 0) := fun x hxm => by
    have h1 := hx x hxm i hi (.refl _)
    rw [clsN_mem]
    exact ⟨h1.lt hg hi, (labF_conn hg hi (h1.lt hg hi)).1 h1⟩
  have hall : ∀ q, Conn gens n i q → ∃ x ∈ G, bell x i = q := by
    intro q hq
    induction hq with
    | refl => exact ⟨roundsL n, hG.one, roundsL_bell n i hn.2 hi⟩
    | @fwd q g _ hm hlt ih =>
      obtain ⟨x, hxm, rfl⟩ := ih
      exact ⟨timesL g x, hG.mul g (hs g hm) x hxm, timesL_bell g x i (by rw [(hG.rows x hxm).2]; exact hi)⟩
    | @bwd q g hq' hm hlt ih =>
      obtain ⟨x, hxm, e⟩ := ih
      have hr := hg g hm
      refine ⟨timesL (turnL g) x, hG.mul _ (hG.inv (hs g hm)) x hxm, ?_⟩
      rw [timesL_bell _ x i (by rw [(hG.rows x hxm).2]; exact hi), e]
      have h1 : bell (timesL (turnL g) g) q = bell (turnL g) (bell g q) := timesL_bell _ _ _ (by rw [hr.2]; exact hlt)
      rw [turn_times hr.1, hr.2, roundsL_bell n q hn.2 hlt] at h1
      exact h1.symm
  have hlen := fib_sum (fun x => bell x i) ((G.filter fun y => decide (bell y i = i)).length) (clsN (labF gens n) n ((labF gens n).getD i 0)) G (clsN_nodup _ _ _) hmem (fun b hb => by
    obtain ⟨hb1, hb2⟩ := (clsN_mem _ _ _ _).1 hb
    obtain ⟨x, hxm, rfl⟩ := hall b ((labF_conn hg hi hb1).2 hb2)
    have hxr := hG.rows x hxm
    have hti : bell (turnL x) (bell x i) = i := by
      have h1 : bell (timesL (turnL x) x) i = bell (turnL x) (bell x i) := timesL_bell _ _ _ (by rw [hxr.2]; exact hi)
      rw [turn_times hxr.1, hxr.2, roundsL_bell n i hn.2 hi] at h1
      exact h1.symm
    refine Nat.le_antisymm ?_ ?_
    · have hnd : ((G.filter fun y => decide (bell y i = bell x i)).map (timesL (turnL x))).Nodup := map_nodup (hG.nodup.filter _) (fun a ha b hb e => by
        have h1 := hG.rows a (List.mem_filter.1 ha).1
        have h2 := hG.rows b (List.mem_filter.1 hb).1
        exact times_cancel (turnL_row hxr.1) h1.1 h2.1 (by rw [turnL_len, hxr.2, h1.2]) (by rw [turnL_len, hxr.2, h2.2]) e)
      have := sub_lenP hnd (B := G.filter fun y => decide (bell y i = i)) (fun z hz => by
        obtain ⟨y, hy, rfl⟩ := List.mem_map.1 hz
        obtain ⟨h1, h2⟩ := List.mem_filter.1 hy
        refine List.mem_filter.2 ⟨hG.mul _ (hG.inv hxm) y h1, ?_⟩
        have h2 : bell y i = bell x i := by simpa using h2
        rw [timesL_bell _ y i (by rw [(hG.rows y h1).2]; exact hi), h2, hti]
        simp)
      rwa [List.length_map] at this
    · have hnd : ((G.filter fun y => decide (bell y i = i)).map (timesL x)).Nodup := map_nodup (hG.nodup.filter _) (fun a ha b hb e => by
        have h1 := hG.rows a (List.mem_filter.1 ha).1
        have h2 := hG.rows b (List.mem_filter.1 hb).1
        exact times_cancel hxr.1 h1.1 h2.1 (by rw [hxr.2, h1.2]) (by rw [hxr.2, h2.2]) e)
      have := sub_lenP hnd (B := G.filter fun y => decide (bell y i = bell x i)) (fun z hz => by
        obtain ⟨y, hy, rfl⟩ := List.mem_map.1 hz
        obtain ⟨h1, h2⟩ := List.mem_filter.1 hy
        refine List.mem_filter.2 ⟨hG.mul x hxm y h1, ?_⟩
        have h2 : bell y i = i := by simpa using h2
        rw [timesL_bell x y i (by rw [(hG.rows y h1).2]; exact hi), h2]
        simp)
      rwa [List.length_map] at this)
  exact ⟨_, hlen⟩
end
end Go.Proofs.Ythopbkemkfjebaa
