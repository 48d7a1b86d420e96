/-
  How laws compare lists, and their number of some bytes.
  Conditions: none.
-/
import Derived.Test.YtnincmnkdjlndaaA6
set_option linter.unusedSimpArgs false
set_option linter.unusedVariables false
set_option linter.defProp false
namespace Go.Proofs.Ytnincmnkdjlndaa
open Go Go.RowKit
section
variable (P : Program) (k : KT) (e : Env) (w : World)
abbrev b98_1 : X := (.cond (.t 10) (.seq (.reg [4] (.c (.q 4 [] (.mv (.c (.bool false)))) .nil)) .ret) .skip)
def t98_1 := b98_1
theorem u98_1 : vcK P t98_1 k e w = vcK P b98_1 k e w := rfl
abbrev b98_2 : X := (.cond (.t 24) (.seq (.reg [4] (.c (.q 4 [] (.mv (.c (.bool false)))) .nil)) .ret) .skip)
def t98_2 := b98_2
theorem u98_2 : vcK P t98_2 k e w = vcK P b98_2 k e w := rfl
abbrev b98_3 : X := (.seq (.drw [0, 1, 12, 13, 24] (.c (.q 16 [] (.mv (.t 0))) (.c (.q 17 [] (.mv (.t 5))) (.c (.q 18 [] (.ia 1 (.t 16) (.t 17))) (.c (.q 19 [] (.ld (.t 18))) (.c (.q 20 [] (.mv (.t 1))) (.c (.q 21 [] (.mv (.t 5))) (.c (.q 22 [] (.ia 1 (.t 20) (.t 21))) (.c (.q 23 [] (.ld (.t 22))) (.c (.q 24 [] (.bin .neq (.t 19) (.t 23))) .nil)))))))))) t98_2)
def t98_3 := b98_3
theorem u98_3 : vcK P t98_3 k e w = vcK P b98_3 k e w := rfl
abbrev b98_4 : X := (.reg [0, 1, 12, 13] (.c (.q 25 [] (.bin .add (.t 13) (.c (.int .i64 1)))) (.c (.q 13 [] (.mv (.t 25))) .nil)))
def t98_4 := b98_4
theorem u98_4 : vcK P t98_4 k e w = vcK P b98_4 k e w := rfl
abbrev b98_5 : X := (.seq (.blk 1 (.seq (.reg [0, 1, 5, 12, 13] (.c (.q 15 [] (.mv (.t 13))) (.c (.q 5 [] (.mv (.t 15))) .nil))) t98_3)) t98_4)
def t98_5 := b98_5
theorem u98_5 : vcK P t98_5 k e w = vcK P b98_5 k e w := rfl
abbrev b98_6 : X := (.seq (.cond (.t 14) .skip (.exit 0)) t98_5)
def t98_6 := b98_6
theorem u98_6 : vcK P t98_6 k e w = vcK P b98_6 k e w := rfl
abbrev b98_7 : X := (.seq (.reg [0, 1, 12, 13, 14] (.c (.q 14 [] (.bin .lss (.t 13) (.t 12))) .nil)) t98_6)
def t98_7 := b98_7
theorem u98_7 : vcK P t98_7 k e w = vcK P b98_7 k e w := rfl
abbrev b98_8 : X := (.blk 0 (.loop [13] [0, 1, 12] t98_7))
def t98_8 := b98_8
theorem u98_8 : vcK P t98_8 k e w = vcK P b98_8 k e w := rfl
abbrev b98_9 : X := (.seq (.reg [4] (.c (.q 4 [] (.mv (.c (.bool true)))) .nil)) .ret)
def t98_9 := b98_9
theorem u98_9 : vcK P t98_9 k e w = vcK P b98_9 k e w := rfl
abbrev b98_10 : X := (.seq (.seq (.reg [0, 1, 12, 13] (.c (.q 11 [] (.mv (.t 0))) (.c (.q 12 [] (.lens (.t 11))) (.c (.q 13 [] (.mv (.c (.int .i64 0)))) .nil)))) t98_8) t98_9)
def t98_10 := b98_10
theorem u98_10 : vcK P t98_10 k e w = vcK P b98_10 k e w := rfl
abbrev b98_11 : X := (.seq (.seq (.reg [0, 1, 10] (.c (.q 6 [] (.mv (.t 0))) (.c (.q 7 [] (.lens (.t 6))) (.c (.q 8 [] (.mv (.t 1))) (.c (.q 9 [] (.lens (.t 8))) (.c (.q 10 [] (.bin .neq (.t 7) (.t 9))) .nil)))))) t98_1) t98_10)
def t98_11 := b98_11
theorem u98_11 : vcK P t98_11 k e w = vcK P b98_11 k e w := rfl
abbrev b98_0 : X := (.seq (.reg [0, 1] (.c (.q 4 [] (.mv (.c (.bool false)))) .nil)) t98_11)
def x_lqSameS := b98_0
theorem u98_0 : vcK P x_lqSameS k e w = vcK P b98_0 k e w := rfl
def r_lqSameS : List XO := [(.mv (.t 4))]
theorem c_lqSameS : convF Try.prog [147, 148, 152, 160, 162, 163, 170, 178, 206, 208, 210, 224, 233, 235, 236, 251, 264, 265, 268, 270, 287, 322] Try.f98 [([0, 1], []), ([0, 1, 10], []), ([4], []), ([0, 1, 12, 13], []), ([13], [0, 1, 12]), ([0, 1, 12, 13, 14], []), ([0, 1, 5, 12, 13], []), ([0, 1, 12, 13, 24], []), ([4], []), ([0, 1, 12, 13], []), ([4], [])] = some (x_lqSameS, r_lqSameS) := by kernel_rfl
def us_lqSameS :=  (aI (aI (aI @u98_0 (aI @u98_1 @u98_2)) (aI @u98_3 (aI @u98_4 @u98_5))) (aI (aI @u98_6 (aI @u98_7 @u98_8)) (aI @u98_9 (aI @u98_10 @u98_11))))
abbrev b23_1 : X := (.cond (.t 10) (.seq (.reg [4] (.c (.q 4 [] (.mv (.c (.bool false)))) .nil)) .ret) .skip)
def t23_1 := b23_1
theorem u23_1 : vcK P t23_1 k e w = vcK P b23_1 k e w := rfl
abbrev b23_2 : X := (.cond (.t 24) (.seq (.reg [4] (.c (.q 4 [] (.mv (.c (.bool false)))) .nil)) .ret) .skip)
def t23_2 := b23_2
theorem u23_2 : vcK P t23_2 k e w = vcK P b23_2 k e w := rfl
abbrev b23_3 : X := (.seq (.drw [0, 1, 12, 13, 24] (.c (.q 16 [] (.mv (.t 0))) (.c (.q 17 [] (.mv (.t 5))) (.c (.q 18 [] (.ia 1 (.t 16) (.t 17))) (.c (.q 19 [] (.ld (.t 18))) (.c (.q 20 [] (.mv (.t 1))) (.c (.q 21 [] (.mv (.t 5))) (.c (.q 22 [] (.ia 1 (.t 20) (.t 21))) (.c (.q 23 [] (.ld (.t 22))) (.c (.q 24 [] (.bin .neq (.t 19) (.t 23))) .nil)))))))))) t23_2)
def t23_3 := b23_3
theorem u23_3 : vcK P t23_3 k e w = vcK P b23_3 k e w := rfl
abbrev b23_4 : X := (.reg [0, 1, 12, 13] (.c (.q 25 [] (.bin .add (.t 13) (.c (.int .i64 1)))) (.c (.q 13 [] (.mv (.t 25))) .nil)))
def t23_4 := b23_4
theorem u23_4 : vcK P t23_4 k e w = vcK P b23_4 k e w := rfl
abbrev b23_5 : X := (.seq (.blk 1 (.seq (.reg [0, 1, 5, 12, 13] (.c (.q 15 [] (.mv (.t 13))) (.c (.q 5 [] (.mv (.t 15))) .nil))) t23_3)) t23_4)
def t23_5 := b23_5
theorem u23_5 : vcK P t23_5 k e w = vcK P b23_5 k e w := rfl
abbrev b23_6 : X := (.seq (.cond (.t 14) .skip (.exit 0)) t23_5)
def t23_6 := b23_6
theorem u23_6 : vcK P t23_6 k e w = vcK P b23_6 k e w := rfl
abbrev b23_7 : X := (.seq (.reg [0, 1, 12, 13, 14] (.c (.q 14 [] (.bin .lss (.t 13) (.t 12))) .nil)) t23_6)
def t23_7 := b23_7
theorem u23_7 : vcK P t23_7 k e w = vcK P b23_7 k e w := rfl
abbrev b23_8 : X := (.blk 0 (.loop [13] [0, 1, 12] t23_7))
def t23_8 := b23_8
theorem u23_8 : vcK P t23_8 k e w = vcK P b23_8 k e w := rfl
abbrev b23_9 : X := (.seq (.reg [4] (.c (.q 4 [] (.mv (.c (.bool true)))) .nil)) .ret)
def t23_9 := b23_9
theorem u23_9 : vcK P t23_9 k e w = vcK P b23_9 k e w := rfl
abbrev b23_10 : X := (.seq (.seq (.reg [0, 1, 12, 13] (.c (.q 11 [] (.mv (.t 0))) (.c (.q 12 [] (.lens (.t 11))) (.c (.q 13 [] (.mv (.c (.int .i64 0)))) .nil)))) t23_8) t23_9)
def t23_10 := b23_10
theorem u23_10 : vcK P t23_10 k e w = vcK P b23_10 k e w := rfl
abbrev b23_11 : X := (.seq (.seq (.reg [0, 1, 10] (.c (.q 6 [] (.mv (.t 0))) (.c (.q 7 [] (.lens (.t 6))) (.c (.q 8 [] (.mv (.t 1))) (.c (.q 9 [] (.lens (.t 8))) (.c (.q 10 [] (.bin .neq (.t 7) (.t 9))) .nil)))))) t23_1) t23_10)
def t23_11 := b23_11
theorem u23_11 : vcK P t23_11 k e w = vcK P b23_11 k e w := rfl
abbrev b23_0 : X := (.seq (.reg [0, 1] (.c (.q 4 [] (.mv (.c (.bool false)))) .nil)) t23_11)
def x_lsameTexts := b23_0
theorem u23_0 : vcK P x_lsameTexts k e w = vcK P b23_0 k e w := rfl
def r_lsameTexts : List XO := [(.mv (.t 4))]
theorem c_lsameTexts : convF Try.prog [147, 148, 152, 160, 162, 163, 170, 178, 206, 208, 210, 224, 233, 235, 236, 251, 264, 265, 268, 270, 287, 322] Try.f23 [([0, 1], []), ([0, 1, 10], []), ([4], []), ([0, 1, 12, 13], []), ([13], [0, 1, 12]), ([0, 1, 12, 13, 14], []), ([0, 1, 5, 12, 13], []), ([0, 1, 12, 13, 24], []), ([4], []), ([0, 1, 12, 13], []), ([4], [])] = some (x_lsameTexts, r_lsameTexts) := by kernel_rfl
def us_lsameTexts :=  (aI (aI (aI @u23_0 (aI @u23_1 @u23_2)) (aI @u23_3 (aI @u23_4 @u23_5))) (aI (aI @u23_6 (aI @u23_7 @u23_8)) (aI @u23_9 (aI @u23_10 @u23_11))))
end

theorem lqSameS_ok (v1 v2 : Value) (l1 l2 : List (List UInt8)) (w : World) (h1 : Sq fS 1 w v1 l1) (h2 : Sq fS 1 w v2 l2) (hl : l1.length ≤ 1000000000) : Fn 98 [v1, v2] w (fun v _ => v = .bool (decide (l1 = l2))) := by
  (refine callsV_of mix Try.func98 c_lqSameS ?_; simp only [↓vsd, vsn, gW, qd, qv, ev, pick, argE, zipE, ne_eq, eq_self, forall_const, implies_true, if_true, if_false, reduceIte, reduceCtorEq, Nat.reduceEqDiff, Nat.reduceAdd, Nat.reduceLT, ↓us_lqSameS, r_lqSameS])
  simp only [↓vsd, vsn, gW, qd, qv, ev, pick, argE, zipE, ne_eq, eq_self, forall_const, implies_true, if_true, if_false, reduceIte, reduceCtorEq, Nat.reduceEqDiff, Nat.reduceAdd, Nat.reduceLT, ↓us_lqSameS, r_lqSameS, h1.facts, h2.facts]
  refine ⟨fun hne => ⟨Ext.refl _, ?_⟩, fun he => ?_⟩
  · have : ¬ l1 = l2 := fun e => hne (by rw [e])
    simp [this]
  refine m_upto l1.length (fun k vs w' => vs = [.int .i64 k] ∧ l1.take k = l2.take k ∧ Ext w w') ⟨rfl, rfl, Ext.refl _⟩ ?_
  rintro k vs w3 hk ⟨rfl, heq, hx⟩
  have g1 := h1.ext hx
  have g2 := h2.ext hx
  by_cases hlt : k < l1.length
  · have hlt2 : k < l2.length := by omega
    have hltI : (k : Int) < l1.length := by omega
    have hltJ : ¬ (l1.length : Int) ≤ k := by omega
    simp only [↓vsd, vsn, gW, qd, qv, ev, pick, argE, zipE, ne_eq, eq_self, forall_const, implies_true, if_true, if_false, reduceIte, reduceCtorEq, Nat.reduceEqDiff, Nat.reduceAdd, Nat.reduceLT, ↓us_lqSameS, r_lqSameS, g1.facts, g2.facts, g1.at1 [] hlt, g2.at1 [] hlt2, hltI, hltJ]
    exact ⟨by omega, by omega, fun hne => ⟨hx, by simp [ne_at k hne]⟩, fun he2 => ⟨inR_i64 (by omega), UpTo.next hlt ⟨rfl, eq_take heq hlt hlt2 he2, dr hx⟩⟩⟩
  · obtain rfl : k = l1.length := by omega
    have hltI : ¬ (l1.length : Int) < l1.length := by omega
    simp only [↓vsd, vsn, gW, qd, qv, ev, pick, argE, zipE, ne_eq, eq_self, forall_const, implies_true, if_true, if_false, reduceIte, reduceCtorEq, Nat.reduceEqDiff, Nat.reduceAdd, Nat.reduceLT, ↓us_lqSameS, r_lqSameS, g1.facts, hltI]
    exact ⟨hx, by simp [eq_len heq (by omega)]⟩
theorem lsameTexts_ok (v1 v2 : Value) (l1 l2 : List (List UInt8)) (w : World) (h1 : Sq fS 1 w v1 l1) (h2 : Sq fS 1 w v2 l2) (hl : l1.length ≤ 1000000000) : Fn 23 [v1, v2] w (fun v _ => v = .bool (decide (l1 = l2))) := by
  (refine callsV_of mix Try.func23 c_lsameTexts ?_; simp only [↓vsd, vsn, gW, qd, qv, ev, pick, argE, zipE, ne_eq, eq_self, forall_const, implies_true, if_true, if_false, reduceIte, reduceCtorEq, Nat.reduceEqDiff, Nat.reduceAdd, Nat.reduceLT, ↓us_lsameTexts, r_lsameTexts])
  simp only [↓vsd, vsn, gW, qd, qv, ev, pick, argE, zipE, ne_eq, eq_self, forall_const, implies_true, if_true, if_false, reduceIte, reduceCtorEq, Nat.reduceEqDiff, Nat.reduceAdd, Nat.reduceLT, ↓us_lsameTexts, r_lsameTexts, h1.facts, h2.facts]
  refine ⟨fun hne => ⟨Ext.refl _, ?_⟩, fun he => ?_⟩
  · have : ¬ l1 = l2 := fun e => hne (by rw [e])
    simp [this]
  refine m_upto l1.length (fun k vs w' => vs = [.int .i64 k] ∧ l1.take k = l2.take k ∧ Ext w w') ⟨rfl, rfl, Ext.refl _⟩ ?_
  rintro k vs w3 hk ⟨rfl, heq, hx⟩
  have g1 := h1.ext hx
  have g2 := h2.ext hx
  by_cases hlt : k < l1.length
  · have hlt2 : k < l2.length := by omega
    have hltI : (k : Int) < l1.length := by omega
    have hltJ : ¬ (l1.length : Int) ≤ k := by omega
    simp only [↓vsd, vsn, gW, qd, qv, ev, pick, argE, zipE, ne_eq, eq_self, forall_const, implies_true, if_true, if_false, reduceIte, reduceCtorEq, Nat.reduceEqDiff, Nat.reduceAdd, Nat.reduceLT, ↓us_lsameTexts, r_lsameTexts, g1.facts, g2.facts, g1.at1 [] hlt, g2.at1 [] hlt2, hltI, hltJ]
    exact ⟨by omega, by omega, fun hne => ⟨hx, by simp [ne_at k hne]⟩, fun he2 => ⟨inR_i64 (by omega), UpTo.next hlt ⟨rfl, eq_take heq hlt hlt2 he2, dr hx⟩⟩⟩
  · obtain rfl : k = l1.length := by omega
    have hltI : ¬ (l1.length : Int) < l1.length := by omega
    simp only [↓vsd, vsn, gW, qd, qv, ev, pick, argE, zipE, ne_eq, eq_self, forall_const, implies_true, if_true, if_false, reduceIte, reduceCtorEq, Nat.reduceEqDiff, Nat.reduceAdd, Nat.reduceLT, ↓us_lsameTexts, r_lsameTexts, g1.facts, hltI]
    exact ⟨hx, by simp [eq_len heq (by omega)]⟩
end Go.Proofs.Ytnincmnkdjlndaa
