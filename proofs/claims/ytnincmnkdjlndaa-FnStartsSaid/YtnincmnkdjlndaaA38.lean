/-
  Palindromes and reversed touches.
  Conditions: none.
-/
import Derived.Test.YtnincmnkdjlndaaA30
import Derived.Test.YtnincmnkdjlndaaA22
import Derived.Test.YtnincmnkdjlndaaPt
set_option linter.unusedSimpArgs false
set_option linter.unusedVariables false
set_option linter.defProp false
namespace Go.Proofs.Ytnincmnkdjlndaa
open Go Go.RowKit
section
variable (P : Program) (k : KT) (e : Env) (w : World)
abbrev b191_1 : X := (.cond (.t 11) .skip (.exit 0))
def t191_1 := b191_1
theorem u191_1 : vcK P t191_1 k e w = vcK P b191_1 k e w := rfl
abbrev b191_2 : X := (.cond (.t 27) (.seq (.reg [2] (.c (.q 2 [] (.mv (.c (.bool false)))) .nil)) .ret) .skip)
def t191_2 := b191_2
theorem u191_2 : vcK P t191_2 k e w = vcK P b191_2 k e w := rfl
abbrev b191_3 : X := (.reg [1, 3, 4] (.c (.q 12 [] (.mv (.t 4))) (.c (.q 13 [] (.bin .add (.t 12) (.c (.int .i64 1)))) (.c (.q 4 [] (.mv (.t 13))) .nil))))
def t191_3 := b191_3
theorem u191_3 : vcK P t191_3 k e w = vcK P b191_3 k e w := rfl
abbrev b191_4 : X := (.seq (.blk 1 (.seq (.drw [1, 3, 4, 27] (.c (.q 14 [] (.fa 2 (.t 1))) (.c (.q 15 [] (.ld (.t 14))) (.c (.q 16 [] (.mv (.t 4))) (.c (.q 17 [] (.ia 1 (.t 15) (.t 16))) (.c (.q 18 [] (.ld (.t 17))) (.c (.q 19 [] (.fa 2 (.t 1))) (.c (.q 20 [] (.ld (.t 19))) (.c (.q 21 [] (.mv (.t 3))) (.c (.q 22 [] (.bin .sub (.t 21) (.c (.int .i64 1)))) (.c (.q 23 [] (.mv (.t 4))) (.c (.q 24 [] (.bin .sub (.t 22) (.t 23))) (.c (.q 25 [] (.ia 1 (.t 20) (.t 24))) (.c (.q 26 [] (.ld (.t 25))) (.c (.q 27 [] (.bin .neq (.t 18) (.t 26))) .nil))))))))))))))) t191_2)) t191_3)
def t191_4 := b191_4
theorem u191_4 : vcK P t191_4 k e w = vcK P b191_4 k e w := rfl
abbrev b191_5 : X := (.seq (.seq (.reg [1, 3, 4, 11] (.c (.q 9 [] (.mv (.t 4))) (.c (.q 10 [] (.mv (.t 3))) (.c (.q 11 [] (.bin .lss (.t 9) (.t 10))) .nil)))) t191_1) t191_4)
def t191_5 := b191_5
theorem u191_5 : vcK P t191_5 k e w = vcK P b191_5 k e w := rfl
abbrev b191_6 : X := (.blk 0 (.loop [4] [1, 3] t191_5))
def t191_6 := b191_6
theorem u191_6 : vcK P t191_6 k e w = vcK P b191_6 k e w := rfl
abbrev b191_7 : X := (.seq (.reg [2] (.c (.q 2 [] (.mv (.c (.bool true)))) .nil)) .ret)
def t191_7 := b191_7
theorem u191_7 : vcK P t191_7 k e w = vcK P b191_7 k e w := rfl
abbrev b191_8 : X := (.seq (.seq (.reg [1, 3, 4] (.c (.q 4 [] (.mv (.c (.int .i64 0)))) .nil)) t191_6) t191_7)
def t191_8 := b191_8
theorem u191_8 : vcK P t191_8 k e w = vcK P b191_8 k e w := rfl
abbrev b191_9 : X := (.seq (.reg [1, 3] (.c (.q 5 [] (.fa 2 (.t 1))) (.c (.q 6 [] (.ld (.t 5))) (.c (.q 7 [] (.lens (.t 6))) (.c (.q 8 [] (.bin .sub (.t 7) (.c (.int .i64 1)))) (.c (.q 3 [] (.mv (.t 8))) .nil)))))) t191_8)
def t191_9 := b191_9
theorem u191_9 : vcK P t191_9 k e w = vcK P b191_9 k e w := rfl
abbrev b191_0 : X := (.seq (.reg [1] (.c (.e (some 1) [] (.box 26 (.t 0))) (.c (.q 2 [] (.mv (.c (.bool false)))) .nil))) t191_9)
def x_sl4Palindrome := b191_0
theorem u191_0 : vcK P x_sl4Palindrome k e w = vcK P b191_0 k e w := rfl
def r_sl4Palindrome : List XO := [(.mv (.t 2))]
theorem c_sl4Palindrome : convF Try.prog [147, 148, 152, 160, 162, 163, 170, 178, 206, 208, 210, 224, 233, 235, 236, 251, 264, 265, 268, 270, 287, 322] Try.f191 [([1], []), ([1, 3], []), ([1, 3, 4], []), ([4], [1, 3]), ([1, 3, 4, 11], []), ([1, 3, 4, 27], []), ([2], []), ([1, 3, 4], []), ([2], [])] = some (x_sl4Palindrome, r_sl4Palindrome) := by kernel_rfl
def us_sl4Palindrome :=  (aI (aI (aI @u191_0 @u191_1) (aI @u191_2 (aI @u191_3 @u191_4))) (aI (aI @u191_5 @u191_6) (aI @u191_7 (aI @u191_8 @u191_9))))
abbrev b68_1 : X := (.cond (.t 6) (.seq (.reg [2, 3] (.c (.q 2 [] (.mv (.c (.bool false)))) (.c (.q 3 [] (.mv (.c (.bool false)))) .nil))) .ret) .skip)
def t68_1 := b68_1
theorem u68_1 : vcK P t68_1 k e w = vcK P b68_1 k e w := rfl
abbrev b68_2 : X := (.seq (.reg [2, 3] (.c (.q 7 [] (.lda 3 (.t 1))) (.c (.e (some 8) [] (.call false 191 [(.t 7)])) (.c (.q 2 [] (.mv (.t 8))) (.c (.q 3 [] (.mv (.c (.bool true)))) .nil))))) .ret)
def t68_2 := b68_2
theorem u68_2 : vcK P t68_2 k e w = vcK P b68_2 k e w := rfl
abbrev b68_3 : X := (.seq (.seq (.reg [1, 6] (.c (.q 4 [] (.lda 3 (.t 1))) (.c (.e (some 5) [] (.call false 137 [(.t 4)])) (.c (.q 6 [] (.not (.t 5))) .nil)))) t68_1) t68_2)
def t68_3 := b68_3
theorem u68_3 : vcK P t68_3 k e w = vcK P b68_3 k e w := rfl
abbrev b68_0 : X := (.seq (.reg [1] (.c (.e (some 1) [] (.box 26 (.t 0))) (.c (.q 2 [] (.mv (.c (.bool false)))) (.c (.q 3 [] (.mv (.c (.bool false)))) .nil)))) t68_3)
def x_sIsPalindrome := b68_0
theorem u68_0 : vcK P x_sIsPalindrome k e w = vcK P b68_0 k e w := rfl
def r_sIsPalindrome : List XO := [(.mv (.t 2)), (.mv (.t 3))]
theorem c_sIsPalindrome : convF Try.prog [147, 148, 152, 160, 162, 163, 170, 178, 206, 208, 210, 224, 233, 235, 236, 251, 264, 265, 268, 270, 287, 322] Try.f68 [([1], []), ([1, 6], []), ([2, 3], []), ([2, 3], [])] = some (x_sIsPalindrome, r_sIsPalindrome) := by kernel_rfl
def us_sIsPalindrome :=  (aI (aI @u68_0 @u68_1) (aI @u68_2 @u68_3))
end

theorem pal_take {cs : List (List UInt8)} {n : Nat} (hn : n ≤ cs.length) : IsPal (cs.take n) ↔ ∀ i < n, cs.getD i [] = cs.getD (n - 1 - i) [] := by
  have hl : (cs.take n).length = n := by rw [List.length_take]; omega
  have hg : ∀ i < n, (cs.take n).getD i [] = cs.getD i [] := fun i hi => by rw [List.getD_eq_getElem?_getD, List.getElem?_take, if_pos hi, List.getD_eq_getElem?_getD]
  unfold IsPal
  rw [hl]
  exact ⟨fun h i hi => by have := h i hi; rwa [hg i hi, hg _ (by omega)] at this, fun h i hi => by rw [hg i hi, hg _ (by omega)]; exact h i hi⟩
theorem sl4Palindrome_ok (nm : List UInt8) (st : Int) (v : Value) (cs : List (List UInt8)) (hl : 1 ≤ cs.length ∧ cs.length ≤ 1000000000) (w : World) (h : Sq fS 1 w v cs) : Fn 191 [mV nm st v] w (fun r _ => r = .bool (decide (IsPal (cs.take (cs.length - 1))))) := by
  (refine callsV_of mix Try.func191 c_sl4Palindrome ?_; simp only [↓vsd, vsn, gW, qd, qv, ev, pick, argE, zipE, ne_eq, eq_self, forall_const, implies_true, if_true, if_false, reduceIte, reduceCtorEq, Nat.reduceEqDiff, Nat.reduceAdd, Nat.reduceLT, ↓us_sl4Palindrome, r_sl4Palindrome])
  refine m_al ?_
  rintro b1 w1 hb1 hblk1 hx1 hs1
  have h1 : Blk w1 b1 (fM nm st v) 26 := hblk1
  have hq1 := h.ext hx1
  have hI : ((cs.length : Nat) : Int) - 1 = ((cs.length - 1 : Nat) : Int) := by omega
  have hp := pal_take (cs := cs) (n := cs.length - 1) (by omega)
  simp only [↓vsd, vsn, gW, qd, qv, ev, pick, argE, zipE, ne_eq, eq_self, forall_const, implies_true, if_true, if_false, reduceIte, reduceCtorEq, Nat.reduceEqDiff, Nat.reduceAdd, Nat.reduceLT, ↓us_sl4Palindrome, r_sl4Palindrome, h1.facts, fMg, hq1.facts, hI]
  generalize hn : cs.length - 1 = n at *
  refine ⟨inR_i64 (by omega), m_upto n (fun k vs w' => vs = [.int .i64 k] ∧ (∀ i < k, cs.getD i [] = cs.getD (n - 1 - i) []) ∧ Ext w1 w') ⟨rfl, fun i hi => absurd hi (Nat.not_lt_zero i), Ext.refl _⟩ ?_⟩
  rintro k vs w2 hk ⟨rfl, hall, hx⟩
  have h2 := h1.ext hx
  have hq := hq1.ext hx
  have hx2 := hx1.trans hx
  by_cases hlt : k < n
  · have hltI : (k : Int) < n := by omega
    have hltJ : ¬ (n : Int) ≤ k := by omega
    have hk1 : k < cs.length := by omega
    have hk2 : n - 1 - k < cs.length := by omega
    have e1 : (n : Int) - 1 - k = ((n - 1 - k : Nat) : Int) := by omega
    simp only [↓vsd, vsn, gW, qd, qv, ev, pick, argE, zipE, ne_eq, eq_self, forall_const, implies_true, if_true, if_false, reduceIte, reduceCtorEq, Nat.reduceEqDiff, Nat.reduceAdd, Nat.reduceLT, ↓us_sl4Palindrome, r_sl4Palindrome, hltI, hltJ, h2.facts, fMg, hq.facts, hq.at1 [] hk1, e1, hq.at1 [] hk2]
    refine ⟨by omega, inR_i64 (by omega), inR_i64 (by omega), by omega, fun hne => ⟨hx2, ?_⟩, fun he => ⟨inR_i64 (by omega), UpTo.next hlt ⟨rfl, fun i hi => ?_, by first | exact hx | exact dr hx⟩⟩⟩
    · rw [decide_eq_false (fun hh => hne (hp.1 hh k hlt))]
    · rcases Nat.lt_succ_iff_lt_or_eq.1 hi with h | rfl
      · exact hall i h
      · exact he
  · obtain rfl : k = n := by omega
    have hltI : ¬ (k : Int) < k := by omega
    simp only [↓vsd, vsn, gW, qd, qv, ev, pick, argE, zipE, ne_eq, eq_self, forall_const, implies_true, if_true, if_false, reduceIte, reduceCtorEq, Nat.reduceEqDiff, Nat.reduceAdd, Nat.reduceLT, ↓us_sl4Palindrome, r_sl4Palindrome, hltI]
    exact ⟨hx2, by rw [decide_eq_true (hp.2 hall)]⟩
theorem sIsPalindrome_ok (nm : List UInt8) (st : Int) (v : Value) (cs : List (List UInt8)) (hnm : nm.length ≤ 1048576) (hs : ∀ c ∈ cs, c.length ≤ 1048576) (hl : cs.length ≤ 1000000000) (w : World) (h : Sq fS 1 w v cs) : Fn 68 [mV nm st v] w (fun r _ => r = .tuple ⟨[.bool (decide (IsMethod nm st cs ∧ IsPal (cs.take (cs.length - 1)))), .bool (decide (IsMethod nm st cs))]⟩) := by
  (refine callsV_of mix Try.func68 c_sIsPalindrome ?_; simp only [↓vsd, vsn, gW, qd, qv, ev, pick, argE, zipE, ne_eq, eq_self, forall_const, implies_true, if_true, if_false, reduceIte, reduceCtorEq, Nat.reduceEqDiff, Nat.reduceAdd, Nat.reduceLT, ↓us_sIsPalindrome, r_sIsPalindrome])
  refine m_al ?_
  rintro b1 w1 hb1 hblk1 hx1 hs1
  have h1 : Blk w1 b1 (fM nm st v) 26 := hblk1
  simp only [↓vsd, vsn, gW, qd, qv, ev, pick, argE, zipE, ne_eq, eq_self, forall_const, implies_true, if_true, if_false, reduceIte, reduceCtorEq, Nat.reduceEqDiff, Nat.reduceAdd, Nat.reduceLT, ↓us_sIsPalindrome, r_sIsPalindrome, h1.facts, fMg]
  refine m_call (sl4Good_ok nm st v cs hnm hs hl _ (h.ext hx1)) ?_
  rintro _ w2 hx2 rfl
  have hx12 := hx1.trans hx2
  have h2 := h1.ext hx2
  by_cases hm : IsMethod nm st cs
  · simp only [↓vsd, vsn, gW, qd, qv, ev, pick, argE, zipE, ne_eq, eq_self, forall_const, implies_true, if_true, if_false, reduceIte, reduceCtorEq, Nat.reduceEqDiff, Nat.reduceAdd, Nat.reduceLT, ↓us_sIsPalindrome, r_sIsPalindrome, hm, h2.facts, fMg]
    refine m_call (sl4Palindrome_ok nm st v cs ⟨hm.2.2.1.1, hl⟩ _ (h.ext hx12)) ?_
    rintro _ w3 hx3 rfl
    simp only [↓vsd, vsn, gW, qd, qv, ev, pick, argE, zipE, ne_eq, eq_self, forall_const, implies_true, if_true, if_false, reduceIte, reduceCtorEq, Nat.reduceEqDiff, Nat.reduceAdd, Nat.reduceLT, ↓us_sIsPalindrome, r_sIsPalindrome]
    exact hx12.trans hx3
  · simp only [↓vsd, vsn, gW, qd, qv, ev, pick, argE, zipE, ne_eq, eq_self, forall_const, implies_true, if_true, if_false, reduceIte, reduceCtorEq, Nat.reduceEqDiff, Nat.reduceAdd, Nat.reduceLT, ↓us_sIsPalindrome, r_sIsPalindrome, hm]
    exact hx12
/-- A touch with all calls but the last one reversed. -/
def backL (t : List UInt8) : List UInt8 := (t.take (t.length - 1)).reverse ++ t.drop (t.length - 1)
theorem backL_len (t : List UInt8) : (backL t).length = t.length := by
  unfold backL
  rw [List.length_append, List.length_reverse, List.length_take, List.length_drop]; omega
theorem rev_take_succ (t : List UInt8) (i : Nat) (h : i < t.length) : (t.take (i + 1)).reverse = t.getD i 0 :: (t.take i).reverse := by
  rw [List.take_add_one, List.getElem?_eq_getElem h, List.getD_eq_getElem?_getD, List.getElem?_eq_getElem h, List.reverse_append]
  rfl
def revV (t : List UInt8) : Value := if IsTch t then .tuple ⟨[S (backL t), .bool true]⟩ else .tuple ⟨[S [], .bool false]⟩
theorem tch_back {t : List UInt8} (h : IsTch t) : IsTch (backL t) := by
  refine ⟨by rw [backL_len]; exact h.1, fun c hc => h.2 c ?_⟩
  rcases List.mem_append.1 hc with hc | hc
  · exact List.mem_of_mem_take (List.mem_reverse.1 hc)
  · exact List.mem_of_mem_drop hc
theorem drop_one {t : List UInt8} (h : 1 ≤ t.length) : ∃ z, t.drop (t.length - 1) = [z] ∧ t = t.take (t.length - 1) ++ [z] := by
  have hl : (t.drop (t.length - 1)).length = 1 := by rw [List.length_drop]; omega
  obtain ⟨z, hz⟩ := List.length_eq_one_iff.1 hl
  exact ⟨z, hz, by rw [← hz, List.take_append_drop]⟩
theorem back_back {t : List UInt8} (h : 1 ≤ t.length) : backL (backL t) = t := by
  obtain ⟨z, hz, ht⟩ := drop_one h
  have hl : (t.take (t.length - 1)).length = t.length - 1 := by rw [List.length_take]; omega
  have e : backL t = (t.take (t.length - 1)).reverse ++ [z] := by rw [backL, hz]
  have e2 : (backL t).take (t.length - 1) = (t.take (t.length - 1)).reverse := by
    rw [e, List.take_left' (by rw [List.length_reverse, hl])]
  have e3 : (backL t).drop (t.length - 1) = [z] := by
    rw [e, List.drop_left' (by rw [List.length_reverse, hl])]
  rw [backL, backL_len, e2, e3, List.reverse_reverse, ← ht]
end Go.Proofs.Ytnincmnkdjlndaa
