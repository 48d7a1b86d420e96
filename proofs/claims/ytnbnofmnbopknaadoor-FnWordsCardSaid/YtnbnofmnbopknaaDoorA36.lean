/-
  How laws compare lists, and their number of some bytes.
  Conditions: none.
-/
import Derived.Test.YtnbnofmnbopknaaDoorA6
set_option linter.unusedSimpArgs false
set_option linter.unusedVariables false
set_option linter.defProp false
namespace Go.Proofs.YtnbnofmnbopknaaDoor
open Go Go.RowKit
section
variable (P : Program) (k : KT) (e : Env) (w : World)
abbrev b14_1 : X := (.cond (.t 10) (.seq (.reg [4] (.c (.q 4 [] (.mv (.c (.bool false)))) .nil)) .ret) .skip)
def t14_1 := b14_1
theorem u14_1 : vcK P t14_1 k e w = vcK P b14_1 k e w := rfl
abbrev b14_2 : X := (.cond (.t 24) (.seq (.reg [4] (.c (.q 4 [] (.mv (.c (.bool false)))) .nil)) .ret) .skip)
def t14_2 := b14_2
theorem u14_2 : vcK P t14_2 k e w = vcK P b14_2 k e w := rfl
abbrev b14_3 : X := (.seq (.drw [0, 1, 12, 13, 24] (.c (.q 16 [] (.mv (.t 0))) (.c (.q 17 [] (.mv (.t 5))) (.c (.q 18 [] (.ia 1 (.t 16) (.t 17))) (.c (.q 19 [] (.ld (.t 18))) (.c (.q 20 [] (.mv (.t 1))) (.c (.q 21 [] (.mv (.t 5))) (.c (.q 22 [] (.ia 1 (.t 20) (.t 21))) (.c (.q 23 [] (.ld (.t 22))) (.c (.q 24 [] (.bin .neq (.t 19) (.t 23))) .nil)))))))))) t14_2)
def t14_3 := b14_3
theorem u14_3 : vcK P t14_3 k e w = vcK P b14_3 k e w := rfl
abbrev b14_4 : X := (.reg [0, 1, 12, 13] (.c (.q 25 [] (.bin .add (.t 13) (.c (.int .i64 1)))) (.c (.q 13 [] (.mv (.t 25))) .nil)))
def t14_4 := b14_4
theorem u14_4 : vcK P t14_4 k e w = vcK P b14_4 k e w := rfl
abbrev b14_5 : X := (.seq (.blk 1 (.seq (.reg [0, 1, 5, 12, 13] (.c (.q 15 [] (.mv (.t 13))) (.c (.q 5 [] (.mv (.t 15))) .nil))) t14_3)) t14_4)
def t14_5 := b14_5
theorem u14_5 : vcK P t14_5 k e w = vcK P b14_5 k e w := rfl
abbrev b14_6 : X := (.seq (.cond (.t 14) .skip (.exit 0)) t14_5)
def t14_6 := b14_6
theorem u14_6 : vcK P t14_6 k e w = vcK P b14_6 k e w := rfl
abbrev b14_7 : X := (.seq (.reg [0, 1, 12, 13, 14] (.c (.q 14 [] (.bin .lss (.t 13) (.t 12))) .nil)) t14_6)
def t14_7 := b14_7
theorem u14_7 : vcK P t14_7 k e w = vcK P b14_7 k e w := rfl
abbrev b14_8 : X := (.blk 0 (.loop [13] [0, 1, 12] t14_7))
def t14_8 := b14_8
theorem u14_8 : vcK P t14_8 k e w = vcK P b14_8 k e w := rfl
abbrev b14_9 : X := (.seq (.reg [4] (.c (.q 4 [] (.mv (.c (.bool true)))) .nil)) .ret)
def t14_9 := b14_9
theorem u14_9 : vcK P t14_9 k e w = vcK P b14_9 k e w := rfl
abbrev b14_10 : X := (.seq (.seq (.reg [0, 1, 12, 13] (.c (.q 11 [] (.mv (.t 0))) (.c (.q 12 [] (.lens (.t 11))) (.c (.q 13 [] (.mv (.c (.int .i64 0)))) .nil)))) t14_8) t14_9)
def t14_10 := b14_10
theorem u14_10 : vcK P t14_10 k e w = vcK P b14_10 k e w := rfl
abbrev b14_11 : X := (.seq (.seq (.reg [0, 1, 10] (.c (.q 6 [] (.mv (.t 0))) (.c (.q 7 [] (.lens (.t 6))) (.c (.q 8 [] (.mv (.t 1))) (.c (.q 9 [] (.lens (.t 8))) (.c (.q 10 [] (.bin .neq (.t 7) (.t 9))) .nil)))))) t14_1) t14_10)
def t14_11 := b14_11
theorem u14_11 : vcK P t14_11 k e w = vcK P b14_11 k e w := rfl
abbrev b14_0 : X := (.seq (.reg [0, 1] (.c (.q 4 [] (.mv (.c (.bool false)))) .nil)) t14_11)
def x_lqSameS := b14_0
theorem u14_0 : vcK P x_lqSameS k e w = vcK P b14_0 k e w := rfl
def r_lqSameS : List XO := [(.mv (.t 4))]
theorem c_lqSameS : convF Tryd.prog [27, 28, 29, 30, 32, 36, 40, 45, 46, 47, 50, 51, 52, 61, 62, 98] Tryd.f14 [([0, 1], []), ([0, 1, 10], []), ([4], []), ([0, 1, 12, 13], []), ([13], [0, 1, 12]), ([0, 1, 12, 13, 14], []), ([0, 1, 5, 12, 13], []), ([0, 1, 12, 13, 24], []), ([4], []), ([0, 1, 12, 13], []), ([4], [])] = some (x_lqSameS, r_lqSameS) := by kernel_rfl
def us_lqSameS :=  (aI (aI (aI @u14_0 (aI @u14_1 @u14_2)) (aI @u14_3 (aI @u14_4 @u14_5))) (aI (aI @u14_6 (aI @u14_7 @u14_8)) (aI @u14_9 (aI @u14_10 @u14_11))))
end

theorem lqSameS_ok (v1 v2 : Value) (l1 l2 : List (List UInt8)) (w : World) (h1 : Sq fS 1 w v1 l1) (h2 : Sq fS 1 w v2 l2) (hl : l1.length ≤ 1000000000) : Fn 14 [v1, v2] w (fun v _ => v = .bool (decide (l1 = l2))) := by
  (refine callsV_of mix Tryd.func14 c_lqSameS ?_; simp only [↓vsd, vsn, gW, qd, qv, ev, pick, argE, zipE, ne_eq, eq_self, forall_const, implies_true, if_true, if_false, reduceIte, reduceCtorEq, Nat.reduceEqDiff, Nat.reduceAdd, Nat.reduceLT, ↓us_lqSameS, r_lqSameS])
  simp only [↓vsd, vsn, gW, qd, qv, ev, pick, argE, zipE, ne_eq, eq_self, forall_const, implies_true, if_true, if_false, reduceIte, reduceCtorEq, Nat.reduceEqDiff, Nat.reduceAdd, Nat.reduceLT, ↓us_lqSameS, r_lqSameS, h1.facts, h2.facts]
  refine ⟨fun hne => ⟨Ext.refl _, ?_⟩, fun he => ?_⟩
  · have : ¬ l1 = l2 := fun e => hne (by rw [e])
    simp [this]
  refine m_upto l1.length (fun k vs w' => vs = [.int .i64 k] ∧ l1.take k = l2.take k ∧ Ext w w') ⟨rfl, rfl, Ext.refl _⟩ ?_
  rintro k vs w3 hk ⟨rfl, heq, hx⟩
  have g1 := h1.ext hx
  have g2 := h2.ext hx
  by_cases hlt : k < l1.length
  · have hlt2 : k < l2.length := by omega
    have hltI : (k : Int) < l1.length := by omega
    have hltJ : ¬ (l1.length : Int) ≤ k := by omega
    simp only [↓vsd, vsn, gW, qd, qv, ev, pick, argE, zipE, ne_eq, eq_self, forall_const, implies_true, if_true, if_false, reduceIte, reduceCtorEq, Nat.reduceEqDiff, Nat.reduceAdd, Nat.reduceLT, ↓us_lqSameS, r_lqSameS, g1.facts, g2.facts, g1.at1 [] hlt, g2.at1 [] hlt2, hltI, hltJ]
    exact ⟨by omega, by omega, fun hne => ⟨hx, by simp [ne_at k hne]⟩, fun he2 => ⟨inR_i64 (by omega), UpTo.next hlt ⟨rfl, eq_take heq hlt hlt2 he2, dr hx⟩⟩⟩
  · obtain rfl : k = l1.length := by omega
    have hltI : ¬ (l1.length : Int) < l1.length := by omega
    simp only [↓vsd, vsn, gW, qd, qv, ev, pick, argE, zipE, ne_eq, eq_self, forall_const, implies_true, if_true, if_false, reduceIte, reduceCtorEq, Nat.reduceEqDiff, Nat.reduceAdd, Nat.reduceLT, ↓us_lqSameS, r_lqSameS, g1.facts, hltI]
    exact ⟨hx, by simp [eq_len heq (by omega)]⟩
end Go.Proofs.YtnbnofmnbopknaaDoor
