/-
  Dodges and points of a path, of both sides.
  Conditions: none.
-/
import Derived.Test.YtnincmnkdjlndaaA11
import Derived.Test.YtnincmnkdjlndaaVw
set_option linter.unusedSimpArgs false
set_option linter.unusedVariables false
set_option linter.defProp false
namespace Go.Proofs.Ytnincmnkdjlndaa
open Go Go.RowKit
section
variable (P : Program) (k : KT) (e : Env) (w : World)
abbrev b150_1 : X := (.cond (.t 19) (.seq (.reg [6] (.c (.q 6 [] (.mv (.c (.bool false)))) .nil)) .ret) .skip)
def t150_1 := b150_1
theorem u150_1 : vcK P t150_1 k e w = vcK P b150_1 k e w := rfl
abbrev b150_2 : X := (.seq (.reg [1, 2, 9, 10, 11, 19] (.c (.q 15 [] (.mv (.t 8))) (.c (.q 16 [] (.mv (.t 1))) (.c (.q 17 [] (.mv (.t 2))) (.c (.e (some 18) [] (.call false 149 [(.t 15), (.t 16), (.t 17)])) (.c (.q 19 [] (.not (.t 18))) .nil)))))) t150_1)
def t150_2 := b150_2
theorem u150_2 : vcK P t150_2 k e w = vcK P b150_2 k e w := rfl
abbrev b150_3 : X := (.reg [1, 2, 9, 10, 11] (.c (.q 20 [] (.bin .add (.t 11) (.c (.int .i64 1)))) (.c (.q 11 [] (.mv (.t 20))) .nil)))
def t150_3 := b150_3
theorem u150_3 : vcK P t150_3 k e w = vcK P b150_3 k e w := rfl
abbrev b150_4 : X := (.seq (.blk 1 (.seq (.reg [1, 2, 8, 9, 10, 11] (.c (.q 13 [] (.ia 1 (.t 9) (.t 11))) (.c (.q 14 [] (.ld (.t 13))) (.c (.q 8 [] (.mv (.t 14))) .nil)))) t150_2)) t150_3)
def t150_4 := b150_4
theorem u150_4 : vcK P t150_4 k e w = vcK P b150_4 k e w := rfl
abbrev b150_5 : X := (.seq (.cond (.t 12) .skip (.exit 0)) t150_4)
def t150_5 := b150_5
theorem u150_5 : vcK P t150_5 k e w = vcK P b150_5 k e w := rfl
abbrev b150_6 : X := (.seq (.reg [1, 2, 9, 10, 11, 12] (.c (.q 12 [] (.bin .lss (.t 11) (.t 10))) .nil)) t150_5)
def t150_6 := b150_6
theorem u150_6 : vcK P t150_6 k e w = vcK P b150_6 k e w := rfl
abbrev b150_7 : X := (.blk 0 (.loop [11] [1, 2, 9, 10] t150_6))
def t150_7 := b150_7
theorem u150_7 : vcK P t150_7 k e w = vcK P b150_7 k e w := rfl
abbrev b150_8 : X := (.seq (.reg [6] (.c (.q 6 [] (.mv (.c (.bool true)))) .nil)) .ret)
def t150_8 := b150_8
theorem u150_8 : vcK P t150_8 k e w = vcK P b150_8 k e w := rfl
abbrev b150_9 : X := (.seq (.seq (.reg [1, 2, 9, 10, 11] (.c (.q 9 [] (.mv (.t 0))) (.c (.q 10 [] (.lens (.t 9))) (.c (.q 11 [] (.mv (.c (.int .i64 0)))) .nil)))) t150_7) t150_8)
def t150_9 := b150_9
theorem u150_9 : vcK P t150_9 k e w = vcK P b150_9 k e w := rfl
abbrev b150_0 : X := (.seq (.reg [0, 1, 2] (.c (.q 6 [] (.mv (.c (.bool false)))) .nil)) t150_9)
def x_sl1All := b150_0
theorem u150_0 : vcK P x_sl1All k e w = vcK P b150_0 k e w := rfl
def r_sl1All : List XO := [(.mv (.t 6))]
theorem c_sl1All : convF Try.prog [147, 148, 152, 160, 162, 163, 170, 178, 206, 208, 210, 224, 233, 235, 236, 251, 264, 265, 268, 270, 287, 322] Try.f150 [([0, 1, 2], []), ([1, 2, 9, 10, 11], []), ([11], [1, 2, 9, 10]), ([1, 2, 9, 10, 11, 12], []), ([1, 2, 8, 9, 10, 11], []), ([1, 2, 9, 10, 11, 19], []), ([6], []), ([1, 2, 9, 10, 11], []), ([6], [])] = some (x_sl1All, r_sl1All) := by kernel_rfl
def us_sl1All :=  (aI (aI (aI @u150_0 @u150_1) (aI @u150_2 (aI @u150_3 @u150_4))) (aI (aI @u150_5 @u150_6) (aI @u150_7 (aI @u150_8 @u150_9))))
end

/-- Is a list a path? -/
def IsPth (l : List Int) : Prop := (l.length ≤ 800 ∧ ∀ p ∈ l, 1 ≤ p ∧ p ≤ 8) ∧ ∀ i < l.length, 1 ≤ i → -1 ≤ l.getD i 0 - l.getD (i - 1) 0 ∧ l.getD i 0 - l.getD (i - 1) 0 ≤ 1
instance (l : List Int) : Decidable (IsPth l) := by unfold IsPth; infer_instance
theorem sl1All_okp (v : Value) (l : List Int) (lo hi : Int) (hl : l.length ≤ 1000000000) (w : World) (h : Sq fI 1 w v l) : Fn 150 [v, .int .i64 lo, .int .i64 hi] w (fun r _ => r = .bool (decide (∀ p ∈ l, lo ≤ p ∧ p ≤ hi))) := by
  (refine callsV_of mix Try.func150 c_sl1All ?_; simp only [↓vsd, vsn, gW, qd, qv, ev, pick, argE, zipE, ne_eq, eq_self, forall_const, implies_true, if_true, if_false, reduceIte, reduceCtorEq, Nat.reduceEqDiff, Nat.reduceAdd, Nat.reduceLT, ↓us_sl1All, r_sl1All])
  simp only [↓vsd, vsn, gW, qd, qv, ev, pick, argE, zipE, ne_eq, eq_self, forall_const, implies_true, if_true, if_false, reduceIte, reduceCtorEq, Nat.reduceEqDiff, Nat.reduceAdd, Nat.reduceLT, ↓us_sl1All, r_sl1All, h.facts]
  refine m_upto l.length (fun i vs w' => vs = [.int .i64 i] ∧ (∀ j < i, lo ≤ l.getD j 0 ∧ l.getD j 0 ≤ hi) ∧ Ext w w') ⟨rfl, by simp, Ext.refl _⟩ ?_
  rintro i vs w1 hi' ⟨rfl, ha, hx1⟩
  have hq := h.ext hx1
  by_cases hlt : i < l.length
  · have hltI : (i : Int) < l.length := by omega
    have hltJ : ¬ (l.length : Int) ≤ i := by omega
    simp only [↓vsd, vsn, gW, qd, qv, ev, pick, argE, zipE, ne_eq, eq_self, forall_const, implies_true, if_true, if_false, reduceIte, reduceCtorEq, Nat.reduceEqDiff, Nat.reduceAdd, Nat.reduceLT, ↓us_sl1All, r_sl1All, hltI, hltJ, hq.facts, hq.at1 0 hlt]
    refine ⟨by omega, m_call (sl1In_ok _ lo hi _) ?_⟩
    rintro _ w2 hx2 rfl
    by_cases hP : lo ≤ l.getD i 0 ∧ l.getD i 0 ≤ hi
    · have hD1 := hP.1
      have hD2 := hP.2
      simp only [↓vsd, vsn, gW, qd, qv, ev, pick, argE, zipE, ne_eq, eq_self, forall_const, implies_true, if_true, if_false, reduceIte, reduceCtorEq, Nat.reduceEqDiff, Nat.reduceAdd, Nat.reduceLT, ↓us_sl1All, r_sl1All, hD1, hD2]
      refine ⟨inR_i64 (by omega), UpTo.next hlt ⟨rfl, fun j hj => ?_, hx1.trans hx2⟩⟩
      rcases Nat.lt_succ_iff_lt_or_eq.1 hj with h' | rfl
      · exact ha j h'
      · exact hP
    · have hbD : (decide (lo ≤ l.getD i 0) && decide (l.getD i 0 ≤ hi)) = false := by rw [← Bool.decide_and]; exact decide_eq_false hP
      simp only [↓vsd, vsn, gW, qd, qv, ev, pick, argE, zipE, ne_eq, eq_self, forall_const, implies_true, if_true, if_false, reduceIte, reduceCtorEq, Nat.reduceEqDiff, Nat.reduceAdd, Nat.reduceLT, ↓us_sl1All, r_sl1All, hbD]
      exact ⟨hx1.trans hx2, by rw [decide_eq_false (fun hh => hP (hh _ (getD_mem 0 hlt)))]⟩
  · obtain rfl : i = l.length := by omega
    have hltI : ¬ (l.length : Int) < l.length := by omega
    simp only [↓vsd, vsn, gW, qd, qv, ev, pick, argE, zipE, ne_eq, eq_self, forall_const, implies_true, if_true, if_false, reduceIte, reduceCtorEq, Nat.reduceEqDiff, Nat.reduceAdd, Nat.reduceLT, ↓us_sl1All, r_sl1All, hltI]
    refine ⟨hx1, ?_⟩
    rw [decide_eq_true]
    intro p hp
    obtain ⟨j, hj, rfl⟩ := List.getElem_of_mem hp
    have := ha j hj
    rw [List.getD_eq_getElem?_getD, List.getElem?_eq_getElem hj] at this
    exact this
/-- The indices below k with P. -/
def idxF (P : Nat → Bool) (k : Nat) : List Int := ((List.range k).filter P).map fun i : Nat => (i : Int)
theorem idxF_succ (P : Nat → Bool) (k : Nat) : idxF P (k + 1) = idxF P k ++ if P k = true then [(k : Int)] else [] := by
  unfold idxF
  rw [List.range_succ, List.filter_append, List.map_append]
  by_cases h : P k = true <;> simp [h]
theorem idxF_len (P : Nat → Bool) (k : Nat) : (idxF P k).length ≤ k := by
  unfold idxF
  rw [List.length_map]
  exact Nat.le_trans (List.length_filter_le _ _) (by simp)
def ptP (l : List Int) (i : Nat) : Bool := decide (1 ≤ i ∧ l.getD (i - 1) 0 = l.getD (i + 1) 0 ∧ l.getD i 0 ≠ l.getD (i - 1) 0)
def ptL (l : List Int) : List Int := if IsPth l then idxF (ptP l) (l.length - 2 + 1) else []
def doP (l : List Int) (i : Nat) : Bool := decide (1 ≤ i ∧ l.getD i 0 - l.getD (i - 1) 0 ≠ 0 ∧ l.getD (i + 1) 0 - l.getD i 0 = -(l.getD i 0 - l.getD (i - 1) 0) ∧ l.getD (i + 2) 0 - l.getD (i + 1) 0 = l.getD i 0 - l.getD (i - 1) 0)
def doL (l : List Int) : List Int := if IsPth l then idxF (doP l) (l.length - 3 + 1) else []
end Go.Proofs.Ytnincmnkdjlndaa
