/-
  Plain lists: all changes of a stage as masks, sorted; the change between two rows. No program.
  Conditions: none.
-/
import Derived.Test.YtnincmnkdjlndaaPq
import Derived.Test.YtnincmnkdjlndaaPg
import Derived.Test.YtnincmnkdjlndaaPs
set_option linter.unusedSimpArgs false
set_option linter.unusedVariables false
set_option linter.defProp false
namespace Go.Proofs.Ytnincmnkdjlndaa
open Go Go.RowKit
def bitsB (n s : Nat) : List Bool := (List.range n).map fun p => s.testBit p
def chS (n s : Nat) : List UInt8 := chgOfB (bitsB n s)
/-- The changes among the first k masks. -/
def chsOf (n k : Nat) : List (List UInt8) := ((List.range k).map (chS n)).filter fun c => IsChange n c
theorem chsOf_len (n k : Nat) : (chsOf n k).length ≤ k := by
  refine Nat.le_trans (List.length_filter_le _ _) ?_
  simp
theorem chsOf_succ (n k : Nat) : chsOf n (k + 1) = chsOf n k ++ if IsChange n (chS n k) then [chS n k] else [] := by
  rw [chsOf, List.range_succ, List.map_append, List.filter_append]
  congr 1
  by_cases h : IsChange n (chS n k)
  · rw [if_pos h]; simp [h]
  · rw [if_neg h]; simp [h]
def sortB (l : List (List UInt8)) : Bool := (List.range (l.length - 1)).all fun i => Op.bytesLess (l.getD i []) (l.getD (i + 1) [])
theorem sortB_rise {l : List (List UInt8)} (h : sortB l = true) : Rise l := by
  refine rise_next fun k hk => ?_
  unfold sortB at h
  rw [List.all_eq_true] at h
  have := h k (List.mem_range.2 (by omega))
  rw [less_lt] at this
  simpa using this
theorem allL_riseB : ∀ n < 9, 3 ≤ n → sortB (allL n) = true := by decide +kernel
theorem allL_rise (n : Nat) (hn : 3 ≤ n ∧ n ≤ 8) : Rise (allL n) := sortB_rise (allL_riseB n (by omega) hn.1)
theorem chs_perm : ∀ n < 9, 3 ≤ n → (allL n).isPerm (chsOf n (2 ^ n)) = true := by decide +kernel
theorem chs_all (n : Nat) (hn : 3 ≤ n ∧ n ≤ 8) : srt (chsOf n (2 ^ n)) = allL n :=
  (srt_uniq (List.isPerm_iff.1 (chs_perm n (by omega) hn.1)) (allL_rise n hn).sorted).symm
theorem allL_rec : ∀ n < 9, 5 ≤ n → (allL n).length = (allL (n - 1)).length + (allL (n - 2)).length + 1 := by decide +kernel
theorem allL_mem {n : Nat} {c : List UInt8} (h : IsChange n c) : c ∈ allL n := by
  have hm := by_mask (P := fun n bs => chgOfB bs ∈ allL n) (by decide +kernel) h
  rw [← change_mask h] at hm
  exact hm
/-! ### between two rows -/
def wfB : List Bool → Bool
  | [] => true
  | true :: bs => wfB bs
  | false :: false :: bs => wfB bs
  | _ => false
/-- The row of a mask, from place i on. -/
def valB : List Bool → Nat → List UInt8
  | true :: bs, i => UInt8.ofNat (49 + i) :: valB bs (i + 1)
  | false :: false :: bs, i => UInt8.ofNat (50 + i) :: UInt8.ofNat (49 + i) :: valB bs (i + 2)
  | _, _ => []
theorem valB_len : ∀ (bs : List Bool) (i : Nat), wfB bs = true → (valB bs i).length = bs.length
  | [], _, _ => rfl
  | true :: bs, i, h => by rw [valB, List.length_cons, List.length_cons, valB_len bs (i + 1) h]
  | false :: false :: bs, i, h => by rw [valB, List.length_cons, List.length_cons, List.length_cons, List.length_cons, valB_len bs (i + 2) h]
  | [false], _, h => by cases h
  | false :: true :: _, _, h => by cases h
def wfOk (n : Nat) (bs : List Bool) : Bool :=
  !(wfB bs) || !(bs.any fun b => !b) || (decide (IsChange n (chgOfB bs)) && decide (chgB n (maskL (chgOfB bs) n 1) = valB bs 0) && decide ((if chgOfB bs = [45] then [] else chgOfB bs) = digB bs 1))
theorem wf_all : ∀ n < 9, 3 ≤ n → ∀ bs ∈ allB n, wfOk n bs = true := by decide +kernel
theorem wf_facts (n : Nat) (h9 : n < 9) (h3 : 3 ≤ n) (bs : List Bool) (hm : bs ∈ allB n) (hw : wfB bs = true) (ha : bs.any (fun b => !b) = true) :
    IsChange n (chgOfB bs) ∧ chgB n (maskL (chgOfB bs) n 1) = valB bs 0 ∧ (if chgOfB bs = [45] then [] else chgOfB bs) = digB bs 1 := by
  have h := wf_all n h9 h3 bs hm
  unfold wfOk at h
  rw [hw, ha] at h
  simp only [Bool.not_true, Bool.false_or, Bool.and_eq_true, decide_eq_true_eq] at h
  exact ⟨h.1.1, h.1.2, h.2⟩
theorem btw_mask {g : List UInt8} {n : Nat} (hg : g.length = n) : ∀ (f i : Nat) (c : List UInt8) (s : Bool) (c' : List UInt8) (s' : Bool), i ≤ n → n + 1 ≤ f + i → btw (roundsL n) g f i c s = some (c', s') →
    ∃ bs : List Bool, bs.length = n - i ∧ wfB bs = true ∧ c' = c ++ digB bs (i + 1) ∧ s' = (s || bs.any fun b => !b) ∧ g.drop i = valB bs i := by
  intro f
  induction f with
  | zero => intro i c s c' s' hi hf _; omega
  | succ f ih =>
    intro i c s c' s' hi hf hb
    rw [btw, roundsL_len] at hb
    by_cases hlt : i < n
    · have hd : g.drop i = g.getD i 0 :: g.drop (i + 1) := by rw [List.drop_eq_getElem_cons (by omega), List.getD_eq_getElem?_getD, List.getElem?_eq_getElem (by omega)]; rfl
      rw [if_pos hlt, roundsL_get _ _ hlt] at hb
      by_cases h1 : UInt8.ofNat (49 + i) = g.getD i 0
      · rw [if_pos h1] at hb
        obtain ⟨bs, hl, hw, hc, hs, hv⟩ := ih (i + 1) _ _ _ _ (by omega) (by omega) hb
        refine ⟨true :: bs, by simp only [List.length_cons]; omega, hw, ?_, ?_, ?_⟩
        · rw [hc, digB, List.append_assoc, show 48 + (i + 1) = 49 + i by omega]; rfl
        · rw [hs]; rfl
        · rw [hd, valB, ← h1, hv]
      · rw [if_neg h1] at hb
        by_cases h2 : i + 1 < n ∧ UInt8.ofNat (49 + i) = g.getD (i + 1) 0 ∧ (roundsL n).getD (i + 1) 0 = g.getD i 0
        · rw [if_pos h2] at hb
          obtain ⟨h3, h4, h5⟩ := h2
          rw [roundsL_get _ _ h3] at h5
          obtain ⟨bs, hl, hw, hc, hs, hv⟩ := ih (i + 2) _ _ _ _ (by omega) (by omega) hb
          have hd2 : g.drop (i + 1) = g.getD (i + 1) 0 :: g.drop (i + 2) := by rw [List.drop_eq_getElem_cons (by omega), List.getD_eq_getElem?_getD, List.getElem?_eq_getElem (by omega)]; rfl
          refine ⟨false :: false :: bs, by simp only [List.length_cons]; omega, hw, ?_, ?_, ?_⟩
          · rw [hc, digB, digB]
          · rw [hs]; simp
          · rw [hd, hd2, valB, ← h4, ← h5, hv, show 49 + (i + 1) = 50 + i by omega]
        · rw [if_neg h2] at hb; cases hb
    · rw [if_neg hlt] at hb
      simp only [Option.some.injEq, Prod.mk.injEq] at hb
      obtain ⟨rfl, rfl⟩ := hb
      refine ⟨[], by simp; omega, rfl, by simp [digB], by simp, ?_⟩
      rw [List.drop_eq_nil_of_le (by omega)]; rfl
theorem apply_uniq {a c d : List UInt8} (ha : IsRow a) (hc : IsChange a.length c) (hd : IsChange a.length d) (h : applyL a c = applyL a d) : c = d := by
  have h1 := btw_chg ha hc
  have h2 := btw_chg ha hd
  rw [h, h2] at h1
  simp only [Option.some.injEq, Prod.mk.injEq, and_true] at h1
  have hcl : c ≠ [] := by rcases hc.2 with ⟨rfl, _⟩ | ⟨h, _⟩ <;> simp_all
  have hdl : d ≠ [] := by rcases hd.2 with ⟨rfl, _⟩ | ⟨h, _⟩ <;> simp_all
  by_cases e1 : c = [45]
  · by_cases e2 : d = [45]
    · rw [e1, e2]
    · rw [if_neg e2, if_pos e1] at h1; exact absurd h1 hdl
  · by_cases e2 : d = [45]
    · rw [if_pos e2, if_neg e1] at h1; exact absurd h1.symm hcl
    · rw [if_neg e2, if_neg e1] at h1; exact h1.symm
/-- Between two rows: the one change that leads from a to b, or none. -/
theorem btw_any {a b : List UInt8} (ha : IsRow a) (hb : IsRow b) (hl : a.length = b.length) :
    (∃ c, IsChange a.length c ∧ applyL a c = b ∧ btw a b (a.length + 1) 0 [] false = some (if c = [45] then [] else c, true)) ∨
    ((∀ c, IsChange a.length c → applyL a c ≠ b) ∧ ∀ c, btw a b (a.length + 1) 0 [] false ≠ some (c, true)) := by
  have h8 := ha.1
  have htl := turnL_len a
  have hgr : IsRow (timesL (turnL a) b) := timesL_row (turnL_row ha) hb (by omega)
  have hgl : (timesL (turnL a) b).length = a.length := by rw [timesL_len, hl]
  have hab : timesL a (timesL (turnL a) b) = b := by
    rw [← timesL_assoc a hb (by omega), times_turn ha, hl, rounds_times hb]
  have hbr := btw_rounds ha hgr (by omega) (a.length + 1) 0 [] false
  rw [hab, hgl] at hbr
  cases hv : btw a b (a.length + 1) 0 [] false with
  | none =>
    right
    refine ⟨fun c hc e => ?_, fun c e => (by cases e)⟩
    have := btw_chg ha hc
    rw [e, hv] at this
    cases this
  | some p =>
    obtain ⟨c', s'⟩ := p
    cases s' with
    | false =>
      right
      refine ⟨fun c hc e => ?_, fun c e => (by cases e)⟩
      have := btw_chg ha hc
      rw [e, hv] at this
      simp at this
    | true =>
      left
      rw [hv] at hbr
      obtain ⟨bs, hbl, hw, hc, hs, hd⟩ := btw_mask hgl _ _ _ _ _ _ (Nat.zero_le _) (by omega) hbr.symm
      rw [List.nil_append] at hc
      rw [List.drop_zero] at hd
      have hm := mem_allB bs
      rw [hbl, Nat.sub_zero] at hm
      obtain ⟨f1, f2, f3⟩ := wf_facts a.length (by omega) h8.1 bs hm hw (by simpa using hs.symm)
      refine ⟨chgOfB bs, f1, ?_, by rw [f3, hc]⟩
      rw [applyL, chgL_mask, f2, ← hd, hab]
end Go.Proofs.Ytnincmnkdjlndaa
