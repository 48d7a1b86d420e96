/-
  Hunt bells and still bells, of both sides.
  Conditions: none.
-/
import Derived.Test.YthopbkemkfjebaaKA11
import Derived.Test.YthopbkemkfjebaaKVw
set_option linter.unusedSimpArgs false
set_option linter.unusedVariables false
set_option linter.defProp false
namespace Go.Proofs.Ythopbkemkfjebaa
open Go Go.RowKit
section
variable (P : Program) (k : KT) (e : Env) (w : World)
abbrev b13_1 : X := (.cond (.t 15) (.seq (.reg [4] (.c (.q 4 [] (.mv (.c (.bool true)))) .nil)) .ret) .skip)
def t13_1 := b13_1
theorem u13_1 : vcK P t13_1 k e w = vcK P b13_1 k e w := rfl
abbrev b13_2 : X := (.seq (.reg [1, 7, 8, 9, 15] (.c (.q 13 [] (.mv (.t 6))) (.c (.q 14 [] (.mv (.t 1))) (.c (.q 15 [] (.bin .eql (.t 13) (.t 14))) .nil)))) t13_1)
def t13_2 := b13_2
theorem u13_2 : vcK P t13_2 k e w = vcK P b13_2 k e w := rfl
abbrev b13_3 : X := (.reg [1, 7, 8, 9] (.c (.q 16 [] (.bin .add (.t 9) (.c (.int .i64 1)))) (.c (.q 9 [] (.mv (.t 16))) .nil)))
def t13_3 := b13_3
theorem u13_3 : vcK P t13_3 k e w = vcK P b13_3 k e w := rfl
abbrev b13_4 : X := (.seq (.blk 1 (.seq (.reg [1, 6, 7, 8, 9] (.c (.q 11 [] (.ia 1 (.t 7) (.t 9))) (.c (.q 12 [] (.ld (.t 11))) (.c (.q 6 [] (.mv (.t 12))) .nil)))) t13_2)) t13_3)
def t13_4 := b13_4
theorem u13_4 : vcK P t13_4 k e w = vcK P b13_4 k e w := rfl
abbrev b13_5 : X := (.seq (.cond (.t 10) .skip (.exit 0)) t13_4)
def t13_5 := b13_5
theorem u13_5 : vcK P t13_5 k e w = vcK P b13_5 k e w := rfl
abbrev b13_6 : X := (.seq (.reg [1, 7, 8, 9, 10] (.c (.q 10 [] (.bin .lss (.t 9) (.t 8))) .nil)) t13_5)
def t13_6 := b13_6
theorem u13_6 : vcK P t13_6 k e w = vcK P b13_6 k e w := rfl
abbrev b13_7 : X := (.blk 0 (.loop [9] [1, 7, 8] t13_6))
def t13_7 := b13_7
theorem u13_7 : vcK P t13_7 k e w = vcK P b13_7 k e w := rfl
abbrev b13_8 : X := (.seq (.reg [4] (.c (.q 4 [] (.mv (.c (.bool false)))) .nil)) .ret)
def t13_8 := b13_8
theorem u13_8 : vcK P t13_8 k e w = vcK P b13_8 k e w := rfl
abbrev b13_9 : X := (.seq (.seq (.reg [1, 7, 8, 9] (.c (.q 7 [] (.mv (.t 0))) (.c (.q 8 [] (.lens (.t 7))) (.c (.q 9 [] (.mv (.c (.int .i64 0)))) .nil)))) t13_7) t13_8)
def t13_9 := b13_9
theorem u13_9 : vcK P t13_9 k e w = vcK P b13_9 k e w := rfl
abbrev b13_0 : X := (.seq (.reg [0, 1] (.c (.q 4 [] (.mv (.c (.bool false)))) .nil)) t13_9)
def x_lhas := b13_0
theorem u13_0 : vcK P x_lhas k e w = vcK P b13_0 k e w := rfl
def r_lhas : List XO := [(.mv (.t 4))]
theorem c_lhas : convF Try.prog [54, 55, 58, 69, 70, 71, 72, 73, 84, 89, 94, 95, 113, 114, 115, 130, 134, 143, 146, 161] Try.f13 [([0, 1], []), ([1, 7, 8, 9], []), ([9], [1, 7, 8]), ([1, 7, 8, 9, 10], []), ([1, 6, 7, 8, 9], []), ([1, 7, 8, 9, 15], []), ([4], []), ([1, 7, 8, 9], []), ([4], [])] = some (x_lhas, r_lhas) := by kernel_rfl
def us_lhas :=  (aI (aI (aI @u13_0 @u13_1) (aI @u13_2 (aI @u13_3 @u13_4))) (aI (aI @u13_5 @u13_6) (aI @u13_7 (aI @u13_8 @u13_9))))
end
theorem lhas_ok (v : Value) (l : List Int) (x : Int) (hl : l.length ≤ 1000000000) (w : World) (h : Sq fI 1 w v l) : Fn 13 [v, .int .i64 x] w (fun r _ => r = .bool (decide (x ∈ l))) := by
  (refine callsV_of mix Try.func13 c_lhas ?_; simp only [↓vsd, vsn, gW, qd, qv, ev, pick, argE, zipE, ne_eq, eq_self, forall_const, implies_true, if_true, if_false, reduceIte, reduceCtorEq, Nat.reduceEqDiff, Nat.reduceAdd, Nat.reduceLT, ↓us_lhas, r_lhas])
  simp only [↓vsd, vsn, gW, qd, qv, ev, pick, argE, zipE, ne_eq, eq_self, forall_const, implies_true, if_true, if_false, reduceIte, reduceCtorEq, Nat.reduceEqDiff, Nat.reduceAdd, Nat.reduceLT, ↓us_lhas, r_lhas, h.facts]
  refine m_upto l.length (fun k vs w' => vs = [.int .i64 k] ∧ x ∉ l.take k ∧ Ext w w') ⟨rfl, by simp, Ext.refl _⟩ ?_
  rintro k vs w1 hk ⟨rfl, hall, hx⟩
  have hq := h.ext hx
  by_cases hlt : k < l.length
  · have hltI : (k : Int) < l.length := by omega
    have hltJ : ¬ (l.length : Int) ≤ k := by omega
    simp only [↓vsd, vsn, gW, qd, qv, ev, pick, argE, zipE, ne_eq, eq_self, forall_const, implies_true, if_true, if_false, reduceIte, reduceCtorEq, Nat.reduceEqDiff, Nat.reduceAdd, Nat.reduceLT, ↓us_lhas, r_lhas, hltI, hltJ, hq.facts, hq.at1 0 hlt]
    refine ⟨by omega, fun he => ⟨hx, ?_⟩, fun hne => ⟨inR_i64 (by omega), UpTo.next hlt ⟨rfl, fun hm => ?_, hx⟩⟩⟩
    · rw [decide_eq_true (by rw [← he]; exact getD_mem 0 hlt)]
    · rcases mem_take (d := 0) hlt hm with h' | h'
      · exact hall h'
      · exact hne h'.symm
  · obtain rfl : k = l.length := by omega
    have hltI : ¬ (l.length : Int) < l.length := by omega
    simp only [↓vsd, vsn, gW, qd, qv, ev, pick, argE, zipE, ne_eq, eq_self, forall_const, implies_true, if_true, if_false, reduceIte, reduceCtorEq, Nat.reduceEqDiff, Nat.reduceAdd, Nat.reduceLT, ↓us_lhas, r_lhas, hltI]
    rw [List.take_length] at hall
    exact ⟨hx, by rw [decide_eq_false hall]⟩
end Go.Proofs.Ythopbkemkfjebaa
