/-
  Equal lists of numbers.
  Conditions: none.
-/
import Derived.Test.YthopbkemkfjebaaKA6
set_option linter.unusedSimpArgs false
set_option linter.unusedVariables false
set_option linter.defProp false
namespace Go.Proofs.Ythopbkemkfjebaa
open Go Go.RowKit
section
variable (P : Program) (k : KT) (e : Env) (w : World)
abbrev b63_1 : X := (.cond (.t 10) (.seq (.reg [4] (.c (.q 4 [] (.mv (.c (.bool false)))) .nil)) .ret) .skip)
def t63_1 := b63_1
theorem u63_1 : vcK P t63_1 k e w = vcK P b63_1 k e w := rfl
abbrev b63_2 : X := (.cond (.t 24) (.seq (.reg [4] (.c (.q 4 [] (.mv (.c (.bool false)))) .nil)) .ret) .skip)
def t63_2 := b63_2
theorem u63_2 : vcK P t63_2 k e w = vcK P b63_2 k e w := rfl
abbrev b63_3 : X := (.seq (.drw [0, 1, 12, 13, 24] (.c (.q 16 [] (.mv (.t 0))) (.c (.q 17 [] (.mv (.t 5))) (.c (.q 18 [] (.ia 1 (.t 16) (.t 17))) (.c (.q 19 [] (.ld (.t 18))) (.c (.q 20 [] (.mv (.t 1))) (.c (.q 21 [] (.mv (.t 5))) (.c (.q 22 [] (.ia 1 (.t 20) (.t 21))) (.c (.q 23 [] (.ld (.t 22))) (.c (.q 24 [] (.bin .neq (.t 19) (.t 23))) .nil)))))))))) t63_2)
def t63_3 := b63_3
theorem u63_3 : vcK P t63_3 k e w = vcK P b63_3 k e w := rfl
abbrev b63_4 : X := (.reg [0, 1, 12, 13] (.c (.q 25 [] (.bin .add (.t 13) (.c (.int .i64 1)))) (.c (.q 13 [] (.mv (.t 25))) .nil)))
def t63_4 := b63_4
theorem u63_4 : vcK P t63_4 k e w = vcK P b63_4 k e w := rfl
abbrev b63_5 : X := (.seq (.blk 1 (.seq (.reg [0, 1, 5, 12, 13] (.c (.q 15 [] (.mv (.t 13))) (.c (.q 5 [] (.mv (.t 15))) .nil))) t63_3)) t63_4)
def t63_5 := b63_5
theorem u63_5 : vcK P t63_5 k e w = vcK P b63_5 k e w := rfl
abbrev b63_6 : X := (.seq (.cond (.t 14) .skip (.exit 0)) t63_5)
def t63_6 := b63_6
theorem u63_6 : vcK P t63_6 k e w = vcK P b63_6 k e w := rfl
abbrev b63_7 : X := (.seq (.reg [0, 1, 12, 13, 14] (.c (.q 14 [] (.bin .lss (.t 13) (.t 12))) .nil)) t63_6)
def t63_7 := b63_7
theorem u63_7 : vcK P t63_7 k e w = vcK P b63_7 k e w := rfl
abbrev b63_8 : X := (.blk 0 (.loop [13] [0, 1, 12] t63_7))
def t63_8 := b63_8
theorem u63_8 : vcK P t63_8 k e w = vcK P b63_8 k e w := rfl
abbrev b63_9 : X := (.seq (.reg [4] (.c (.q 4 [] (.mv (.c (.bool true)))) .nil)) .ret)
def t63_9 := b63_9
theorem u63_9 : vcK P t63_9 k e w = vcK P b63_9 k e w := rfl
abbrev b63_10 : X := (.seq (.seq (.reg [0, 1, 12, 13] (.c (.q 11 [] (.mv (.t 0))) (.c (.q 12 [] (.lens (.t 11))) (.c (.q 13 [] (.mv (.c (.int .i64 0)))) .nil)))) t63_8) t63_9)
def t63_10 := b63_10
theorem u63_10 : vcK P t63_10 k e w = vcK P b63_10 k e w := rfl
abbrev b63_11 : X := (.seq (.seq (.reg [0, 1, 10] (.c (.q 6 [] (.mv (.t 0))) (.c (.q 7 [] (.lens (.t 6))) (.c (.q 8 [] (.mv (.t 1))) (.c (.q 9 [] (.lens (.t 8))) (.c (.q 10 [] (.bin .neq (.t 7) (.t 9))) .nil)))))) t63_1) t63_10)
def t63_11 := b63_11
theorem u63_11 : vcK P t63_11 k e w = vcK P b63_11 k e w := rfl
abbrev b63_0 : X := (.seq (.reg [0, 1] (.c (.q 4 [] (.mv (.c (.bool false)))) .nil)) t63_11)
def x_lsameInts := b63_0
theorem u63_0 : vcK P x_lsameInts k e w = vcK P b63_0 k e w := rfl
def r_lsameInts : List XO := [(.mv (.t 4))]
theorem c_lsameInts : convF Try.prog [54, 55, 58, 69, 70, 71, 72, 73, 84, 89, 94, 95, 113, 114, 115, 130, 134, 143, 146, 161] Try.f63 [([0, 1], []), ([0, 1, 10], []), ([4], []), ([0, 1, 12, 13], []), ([13], [0, 1, 12]), ([0, 1, 12, 13, 14], []), ([0, 1, 5, 12, 13], []), ([0, 1, 12, 13, 24], []), ([4], []), ([0, 1, 12, 13], []), ([4], [])] = some (x_lsameInts, r_lsameInts) := by kernel_rfl
def us_lsameInts :=  (aI (aI (aI @u63_0 (aI @u63_1 @u63_2)) (aI @u63_3 (aI @u63_4 @u63_5))) (aI (aI @u63_6 (aI @u63_7 @u63_8)) (aI @u63_9 (aI @u63_10 @u63_11))))
end
theorem lsameInts_ok (v1 v2 : Value) (l1 l2 : List Int) (w : World) (h1 : Sq fI 1 w v1 l1) (h2 : Sq fI 1 w v2 l2) (hl : l1.length ≤ 1000000000) : Fn 63 [v1, v2] w (fun v _ => v = .bool (decide (l1 = l2))) := by
  (refine callsV_of mix Try.func63 c_lsameInts ?_; simp only [↓vsd, vsn, gW, qd, qv, ev, pick, argE, zipE, ne_eq, eq_self, forall_const, implies_true, if_true, if_false, reduceIte, reduceCtorEq, Nat.reduceEqDiff, Nat.reduceAdd, Nat.reduceLT, ↓us_lsameInts, r_lsameInts])
  simp only [↓vsd, vsn, gW, qd, qv, ev, pick, argE, zipE, ne_eq, eq_self, forall_const, implies_true, if_true, if_false, reduceIte, reduceCtorEq, Nat.reduceEqDiff, Nat.reduceAdd, Nat.reduceLT, ↓us_lsameInts, r_lsameInts, h1.facts, h2.facts]
  refine ⟨fun hne => ⟨Ext.refl _, by have : ¬ l1 = l2 := fun e => hne (by rw [e]); simp [this]⟩, fun he => ?_⟩
  have he : l1.length = l2.length := by omega
  refine m_upto l1.length (fun k vs w' => vs = [.int .i64 k] ∧ l1.take k = l2.take k ∧ Ext w w') ⟨rfl, by simp, Ext.refl _⟩ ?_
  rintro k vs w1 hk ⟨rfl, hall, hx⟩
  have hq1 := h1.ext hx
  have hq2 := h2.ext hx
  by_cases hlt : k < l1.length
  · have hltI : (k : Int) < l1.length := by omega
    have hltJ : ¬ (l1.length : Int) ≤ k := by omega
    have hlt2 : k < l2.length := by omega
    have hltK : (k : Int) < l2.length := by omega
    simp only [↓vsd, vsn, gW, qd, qv, ev, pick, argE, zipE, ne_eq, eq_self, forall_const, implies_true, if_true, if_false, reduceIte, reduceCtorEq, Nat.reduceEqDiff, Nat.reduceAdd, Nat.reduceLT, ↓us_lsameInts, r_lsameInts, hq1.facts, hq2.facts, hltI, hltJ, hltK, hq1.at1 0 hlt, hq2.at1 0 hlt2]
    refine ⟨by omega, by omega, fun hne => ⟨hx, by simp [ne_at k hne]⟩, fun he => ⟨inR_i64 (by omega), UpTo.next hlt ⟨rfl, eq_take hall hlt hlt2 he, by first | exact hx | exact dr hx⟩⟩⟩
  · obtain rfl : k = l1.length := by omega
    have hltI : ¬ (l1.length : Int) < l1.length := by omega
    simp only [↓vsd, vsn, gW, qd, qv, ev, pick, argE, zipE, ne_eq, eq_self, forall_const, implies_true, if_true, if_false, reduceIte, reduceCtorEq, Nat.reduceEqDiff, Nat.reduceAdd, Nat.reduceLT, ↓us_lsameInts, r_lsameInts, hq1.facts, hltI]
    exact ⟨hx, by simp [eq_len hall he]⟩
end Go.Proofs.Ythopbkemkfjebaa
