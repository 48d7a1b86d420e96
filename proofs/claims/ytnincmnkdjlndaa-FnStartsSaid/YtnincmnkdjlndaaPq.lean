/-
  Plain lists: changes as masks; pairs, places, mirrors. No program.
  Conditions: none.
-/
import Derived.Test.YtnincmnkdjlndaaPd
set_option linter.unusedSimpArgs false
set_option linter.unusedVariables false
set_option linter.defProp false
namespace Go.Proofs.Ytnincmnkdjlndaa
open Go Go.RowKit
/-- The digits of the places that stay, from place k on. -/
def digB : List Bool → Nat → List UInt8
  | [], _ => []
  | true :: bs, k => UInt8.ofNat (48 + k) :: digB bs (k + 1)
  | false :: bs, k => digB bs (k + 1)
def chgOfB (bs : List Bool) : List UInt8 := if digB bs 1 = [] then [45] else digB bs 1
/-- The lower places of the pairs that swap. -/
def swB : List Bool → Nat → List Nat
  | true :: b :: bs, p => swB (b :: bs) (p + 1)
  | false :: _ :: bs, p => p :: swB bs (p + 2)
  | _, _ => []
def maskL (c : List UInt8) (n p : Nat) : List Bool := (List.range (n + 1 - p)).map fun i => stays c (p + i)
theorem maskL_len (c : List UInt8) (n p : Nat) : (maskL c n p).length = n + 1 - p := by simp [maskL]
theorem maskL_cons (c : List UInt8) {n p : Nat} (h : p ≤ n) : maskL c n p = stays c p :: maskL c n (p + 1) := by
  unfold maskL
  rw [show n + 1 - p = (n + 1 - (p + 1)) + 1 by omega, List.range_succ_eq_map, List.map_cons, List.map_map]
  congr 1
  refine List.map_congr_left fun i _ => ?_
  show stays c (p + (i + 1)) = stays c (p + 1 + i)
  congr 1; omega
theorem maskL_nil (c : List UInt8) {n p : Nat} (h : n < p) : maskL c n p = [] := by
  unfold maskL
  rw [show n + 1 - p = 0 by omega]; rfl
theorem swapsL_mask (c : List UInt8) (n : Nat) : ∀ m p, n - p ≤ m → swapsL c n p = swB (maskL c n p) p := by
  intro m
  induction m using Nat.strongRecOn with
  | _ m ih =>
    intro p hp
    by_cases h : p < n
    · rw [maskL_cons c (by omega), maskL_cons c (show p + 1 ≤ n by omega)]
      by_cases hs : stays c p = true
      · rw [swapsL_stay h hs, hs, swB, ih (m - 1) (by omega) (p + 1) (by omega), maskL_cons c (show p + 1 ≤ n by omega)]
      · have hs : stays c p = false := by simpa using hs
        rw [swapsL_swap h hs, hs, swB, ih (m - 1) (by omega) (p + 2) (by omega)]
    · rw [swapsL_end (by omega)]
      by_cases he : p = n
      · subst he
        rw [maskL_cons c (Nat.le_refl _), maskL_nil c (by omega)]
        cases stays c p <;> rfl
      · rw [maskL_nil c (by omega)]; rfl
theorem stays_cons (b : UInt8) (d : List UInt8) (p : Nat) : stays (b :: d) p = (b.toNat == 48 + p || stays d p) := rfl
theorem stays_iff (d : List UInt8) (p : Nat) : stays d p = true ↔ ∃ b ∈ d, b.toNat = 48 + p := by
  unfold stays
  simp only [List.any_eq_true, beq_iff_eq]
theorem dig_mask (c : List UInt8) (n : Nat) (hn : n ≤ 8) : ∀ m k (d : List UInt8), n + 1 - k ≤ m → (∀ p, k ≤ p → p ≤ n → stays c p = stays d p) → d.Pairwise (fun a b => a.toNat < b.toNat) → (∀ b ∈ d, 48 + k ≤ b.toNat ∧ b.toNat ≤ 48 + n) → digB (maskL c n k) k = d := by
  intro m
  induction m with
  | zero =>
    intro k d hm _ _ hb
    rw [maskL_nil c (by omega)]
    cases d with
    | nil => rfl
    | cons b d => have := hb b (by simp); omega
  | succ m ih =>
    intro k d hm hst hp hb
    by_cases hk : k ≤ n
    · rw [maskL_cons c hk]
      by_cases hs : stays c k = true
      · rw [hs]
        have hd := (stays_iff d k).1 (by rw [← hst k (Nat.le_refl _) hk]; exact hs)
        cases d with
        | nil => obtain ⟨b, hb, _⟩ := hd; cases hb
        | cons b0 d' =>
          rw [List.pairwise_cons] at hp
          have hb0 := hb b0 (by simp)
          have he : b0.toNat = 48 + k := by
            obtain ⟨b, hbm, hbe⟩ := hd
            rcases List.mem_cons.1 hbm with rfl | h'
            · exact hbe
            · have := hp.1 b h'; omega
          have he' : b0 = UInt8.ofNat (48 + k) := UInt8.toNat_inj.1 (by rw [he]; simp [UInt8.toNat_ofNat]; omega)
          rw [digB, ih (k + 1) d' (by omega) (fun p h1 h2 => ?_) hp.2 (fun b hbm => ?_), ← he']
          · rw [hst p (by omega) h2, stays_cons, he]
            have : (48 + k == 48 + p) = false := by rw [beq_eq_false_iff_ne]; omega
            rw [this, Bool.false_or]
          · have := hp.1 b hbm
            have := hb b (List.mem_cons_of_mem _ hbm)
            omega
      · have hs' : stays c k = false := by simpa using hs
        rw [hs', digB]
        refine ih (k + 1) d (by omega) (fun p h1 h2 => hst p (by omega) h2) hp fun b hbm => ?_
        have h1 := hb b hbm
        have : b.toNat ≠ 48 + k := fun e => hs (by rw [hst k (Nat.le_refl _) hk]; exact (stays_iff d k).2 ⟨b, hbm, e⟩)
        omega
    · rw [maskL_nil c (by omega)]
      cases d with
      | nil => rfl
      | cons b d => have := hb b (by simp); omega
theorem Chain.strict {c : List UInt8} {k : Nat} (h : Chain c k) {i j : Nat} (hij : i < j) (hj : j < k) : (c.getD i 0).toNat < (c.getD j 0).toNat := by
  have h1 := h.mono i (j - 1) (by omega) (by omega)
  have h2 := h j hj
  rw [if_neg (by omega)] at h2
  omega
theorem Chain.pw {c : List UInt8} (h : Chain c c.length) : c.Pairwise (fun a b => a.toNat < b.toNat) := by
  rw [List.pairwise_iff_getElem]
  intro i j hi hj hij
  have := h.strict hij hj
  rw [List.getD_eq_getElem?_getD, List.getD_eq_getElem?_getD, List.getElem?_eq_getElem hi, List.getElem?_eq_getElem hj] at this
  exact this
/-- A change is known by the places that stay. -/
theorem change_mask {n : Nat} {c : List UInt8} (h : IsChange n c) : c = chgOfB (maskL c n 1) := by
  obtain ⟨h8, ⟨rfl, _⟩ | ⟨hne, _, hch, hpar, hle⟩⟩ := h
  · have : ∀ n < 9, [45] = chgOfB (maskL [45] n 1) := by decide +kernel
    exact this n (by omega)
  · have hd := dig_mask c n (by omega) n 1 c (by omega) (fun _ _ _ => rfl) hch.pw (fun b hb => ?_)
    · rw [chgOfB, hd, if_neg hne]
    · obtain ⟨i, hi, rfl⟩ := List.mem_iff_getElem.1 hb
      have h1 := (hch i hi).1
      have h2 := hch.mono i (c.length - 1) (by omega) (by omega)
      rw [List.getD_eq_getElem?_getD, List.getElem?_eq_getElem hi] at h1 h2
      simp only [Option.getD_some] at h1 h2
      omega
def allB : Nat → List (List Bool)
  | 0 => [[]]
  | n + 1 => (allB n).flatMap fun b => [true :: b, false :: b]
theorem mem_allB : ∀ (l : List Bool), l ∈ allB l.length
  | [] => by simp [allB]
  | b :: l => by
    have := mem_allB l
    rw [List.length_cons, allB]
    exact List.mem_flatMap.2 ⟨l, this, by cases b <;> simp⟩
def chgB (n : Nat) (bs : List Bool) : List UInt8 := swapAll (roundsL n) (swB bs 1)
theorem chgL_mask (n : Nat) (c : List UInt8) : chgL n c = chgB n (maskL c n 1) := by rw [chgL, chgB, swapsL_mask c n n 1 (by omega)]
/-- What holds of every good mask holds of every change. -/
theorem by_mask {P : Nat → List Bool → Prop} (hP : ∀ n < 9, 3 ≤ n → ∀ bs ∈ allB n, IsChange n (chgOfB bs) → P n bs) {n : Nat} {c : List UInt8} (h : IsChange n c) : P n (maskL c n 1) := by
  have h8 := h.1
  have hl : (maskL c n 1).length = n := by rw [maskL_len]; omega
  refine hP n (by omega) (by omega) _ ?_ (by rw [← change_mask h]; exact h)
  have := mem_allB (maskL c n 1)
  rwa [hl] at this
theorem chg_inv {n : Nat} {c : List UInt8} (h : IsChange n c) : timesL (chgL n c) (chgL n c) = roundsL n ∧ chgL n c ≠ roundsL n := by
  rw [chgL_mask]
  exact by_mask (P := fun n bs => timesL (chgB n bs) (chgB n bs) = roundsL n ∧ chgB n bs ≠ roundsL n) (by decide +kernel) h
/-- The places that stay. -/
def plsB : List Bool → Nat → List Nat
  | [], _ => []
  | true :: bs, k => k :: plsB bs (k + 1)
  | false :: bs, k => plsB bs (k + 1)
/-- The places of a change, as the program lists them. -/
def plC (c : List UInt8) : List Int := if c = [45] then [] else c.map fun b => (b.toNat : Int) - 48
def swC (n : Nat) (c : List UInt8) : List Int := (swapsL c n 1).map fun p : Nat => (p : Int)
def pairsOk (n : Nat) (bs : List Bool) : Bool :=
  decide ((plC (chgOfB bs)).length + 2 * (swB bs 1).length = n) && !(swB bs 1).isEmpty && (plC (chgOfB bs)).all (fun x => decide (1 ≤ x ∧ x ≤ n ∧ bell (chgB n bs) (x - 1).toNat = (x - 1).toNat)) &&
    (swB bs 1).all fun p => decide (1 ≤ p ∧ p < n ∧ bell (chgB n bs) (p - 1) = p ∧ bell (chgB n bs) p = p - 1)
theorem pairs_facts {n : Nat} {c : List UInt8} (h : IsChange n c) : (plC c).length + 2 * (swapsL c n 1).length = n ∧ swapsL c n 1 ≠ [] ∧ (∀ x ∈ plC c, 1 ≤ x ∧ x ≤ n ∧ bell (chgL n c) (x - 1).toNat = (x - 1).toNat) ∧ ∀ p ∈ swapsL c n 1, 1 ≤ p ∧ p < n ∧ bell (chgL n c) (p - 1) = p ∧ bell (chgL n c) p = p - 1 := by
  have hm := by_mask (P := fun n bs => pairsOk n bs = true) (by decide +kernel) h
  simp only [pairsOk, Bool.and_eq_true, decide_eq_true_eq, List.all_eq_true, Bool.not_eq_true', List.isEmpty_eq_false_iff] at hm
  rw [← change_mask h, ← chgL_mask, ← swapsL_mask c n n 1 (by omega)] at hm
  exact ⟨hm.1.1.1, hm.1.1.2, hm.1.2, hm.2⟩
/-- The change between two rows, from place i on. -/
def btw (a b : List UInt8) : Nat → Nat → List UInt8 → Bool → Option (List UInt8 × Bool)
  | 0, _, c, s => some (c, s)
  | f + 1, i, c, s => if i < a.length then (if a.getD i 0 = b.getD i 0 then btw a b f (i + 1) (c ++ [UInt8.ofNat (49 + i)]) s else if i + 1 < a.length ∧ a.getD i 0 = b.getD (i + 1) 0 ∧ a.getD (i + 1) 0 = b.getD i 0 then btw a b f (i + 2) c true else none) else some (c, s)
theorem btw_rounds {r g : List UInt8} (hr : IsRow r) (hg : IsRow g) (hl : r.length = g.length) : ∀ f i c s, btw r (timesL r g) f i c s = btw (roundsL g.length) g f i c s := by
  intro f
  have key : ∀ i j, i < g.length → j < g.length → (r.getD i 0 = (timesL r g).getD j 0 ↔ (roundsL g.length).getD i 0 = g.getD j 0) := by
    intro i j hi hj
    have hb := hg.bell_lt hj
    have h8 := hg.1
    rw [timesL_get r g j hj, roundsL_get _ _ hi, hg.get hj]
    constructor
    · intro e
      rw [hr.inj' (i := i) (j := bell g j) (by omega) (by omega) (by unfold bell at e ⊢; rw [e])]
    · intro e
      have := congrArg UInt8.toNat e
      rw [u8_nat (by omega), u8_nat (by omega)] at this
      rw [show i = bell g j by omega]
  induction f with
  | zero => intro i c s; rfl
  | succ f ih =>
    intro i c s
    rw [btw, btw, roundsL_len, hl]
    by_cases hi : i < g.length
    · rw [if_pos hi, if_pos hi]
      by_cases h1 : r.getD i 0 = (timesL r g).getD i 0
      · rw [if_pos h1, if_pos ((key i i hi hi).1 h1), ih]
      · rw [if_neg h1, if_neg (fun e => h1 ((key i i hi hi).2 e))]
        by_cases h2 : i + 1 < g.length ∧ r.getD i 0 = (timesL r g).getD (i + 1) 0 ∧ r.getD (i + 1) 0 = (timesL r g).getD i 0
        · rw [if_pos h2, if_pos ⟨h2.1, (key i (i + 1) hi h2.1).1 h2.2.1, (key (i + 1) i h2.1 hi).1 h2.2.2⟩, ih]
        · rw [if_neg h2, if_neg (fun e => h2 ⟨e.1, (key i (i + 1) hi e.1).2 e.2.1, (key (i + 1) i e.1 hi).2 e.2.2⟩)]
    · rw [if_neg hi, if_neg hi]
def btwOk (n : Nat) (bs : List Bool) : Bool := match btw (roundsL n) (chgB n bs) (n + 1) 0 [] false with
  | some (c, s) => decide (c = if chgOfB bs = [45] then [] else chgOfB bs) && s
  | none => false
/-- Between a row and the row under a change is that change. -/
theorem btw_chg {r c : List UInt8} (hr : IsRow r) (h : IsChange r.length c) : btw r (applyL r c) (r.length + 1) 0 [] false = some (if c = [45] then [] else c, true) := by
  have hg := chgL_row r.length c (by have := h.1; omega)
  have hgl := chgL_len r.length c
  rw [applyL, btw_rounds hr hg hgl.symm, hgl]
  have hm := by_mask (P := fun n bs => btwOk n bs = true) (by decide +kernel) h
  unfold btwOk at hm
  rw [← change_mask h, ← chgL_mask] at hm
  split at hm
  · rename_i c' s' he
    rw [Bool.and_eq_true, decide_eq_true_eq] at hm
    rw [he, hm.1, hm.2]
  · cases hm
/-- The mirror of a change. -/
def mirC (n : Nat) (c : List UInt8) : List UInt8 := if c = [45] then [45] else c.reverse.map fun b => UInt8.ofNat (n + 97 - b.toNat)
theorem mir_facts {n : Nat} {c : List UInt8} (h : IsChange n c) : IsChange n (mirC n c) ∧ mirC n (mirC n c) = c := by
  have hm := by_mask (P := fun n bs => IsChange n (mirC n (chgOfB bs)) ∧ mirC n (mirC n (chgOfB bs)) = chgOfB bs) (by decide +kernel) h
  rw [← change_mask h] at hm
  exact hm
end Go.Proofs.Ytnincmnkdjlndaa
