/-
  How laws compare lists, and their number of some bytes.
  Conditions: none.
-/
import Derived.Test.YtpnopboffalfnaaA6
set_option linter.unusedSimpArgs false
set_option linter.unusedVariables false
set_option linter.defProp false
namespace Go.Proofs.Ytpnopboffalfnaa
open Go Go.RowKit
section
variable (P : Program) (k : KT) (e : Env) (w : World)
abbrev b81_1 : X := (.cond (.t 10) (.seq (.reg [4] (.c (.q 4 [] (.mv (.c (.bool false)))) .nil)) .ret) .skip)
def t81_1 := b81_1
theorem u81_1 : vcK P t81_1 k e w = vcK P b81_1 k e w := rfl
abbrev b81_2 : X := (.cond (.t 24) (.seq (.reg [4] (.c (.q 4 [] (.mv (.c (.bool false)))) .nil)) .ret) .skip)
def t81_2 := b81_2
theorem u81_2 : vcK P t81_2 k e w = vcK P b81_2 k e w := rfl
abbrev b81_3 : X := (.seq (.drw [0, 1, 12, 13, 24] (.c (.q 16 [] (.mv (.t 0))) (.c (.q 17 [] (.mv (.t 5))) (.c (.q 18 [] (.ia 1 (.t 16) (.t 17))) (.c (.q 19 [] (.ld (.t 18))) (.c (.q 20 [] (.mv (.t 1))) (.c (.q 21 [] (.mv (.t 5))) (.c (.q 22 [] (.ia 1 (.t 20) (.t 21))) (.c (.q 23 [] (.ld (.t 22))) (.c (.q 24 [] (.bin .neq (.t 19) (.t 23))) .nil)))))))))) t81_2)
def t81_3 := b81_3
theorem u81_3 : vcK P t81_3 k e w = vcK P b81_3 k e w := rfl
abbrev b81_4 : X := (.reg [0, 1, 12, 13] (.c (.q 25 [] (.bin .add (.t 13) (.c (.int .i64 1)))) (.c (.q 13 [] (.mv (.t 25))) .nil)))
def t81_4 := b81_4
theorem u81_4 : vcK P t81_4 k e w = vcK P b81_4 k e w := rfl
abbrev b81_5 : X := (.seq (.blk 1 (.seq (.reg [0, 1, 5, 12, 13] (.c (.q 15 [] (.mv (.t 13))) (.c (.q 5 [] (.mv (.t 15))) .nil))) t81_3)) t81_4)
def t81_5 := b81_5
theorem u81_5 : vcK P t81_5 k e w = vcK P b81_5 k e w := rfl
abbrev b81_6 : X := (.seq (.cond (.t 14) .skip (.exit 0)) t81_5)
def t81_6 := b81_6
theorem u81_6 : vcK P t81_6 k e w = vcK P b81_6 k e w := rfl
abbrev b81_7 : X := (.seq (.reg [0, 1, 12, 13, 14] (.c (.q 14 [] (.bin .lss (.t 13) (.t 12))) .nil)) t81_6)
def t81_7 := b81_7
theorem u81_7 : vcK P t81_7 k e w = vcK P b81_7 k e w := rfl
abbrev b81_8 : X := (.blk 0 (.loop [13] [0, 1, 12] t81_7))
def t81_8 := b81_8
theorem u81_8 : vcK P t81_8 k e w = vcK P b81_8 k e w := rfl
abbrev b81_9 : X := (.seq (.reg [4] (.c (.q 4 [] (.mv (.c (.bool true)))) .nil)) .ret)
def t81_9 := b81_9
theorem u81_9 : vcK P t81_9 k e w = vcK P b81_9 k e w := rfl
abbrev b81_10 : X := (.seq (.seq (.reg [0, 1, 12, 13] (.c (.q 11 [] (.mv (.t 0))) (.c (.q 12 [] (.lens (.t 11))) (.c (.q 13 [] (.mv (.c (.int .i64 0)))) .nil)))) t81_8) t81_9)
def t81_10 := b81_10
theorem u81_10 : vcK P t81_10 k e w = vcK P b81_10 k e w := rfl
abbrev b81_11 : X := (.seq (.seq (.reg [0, 1, 10] (.c (.q 6 [] (.mv (.t 0))) (.c (.q 7 [] (.lens (.t 6))) (.c (.q 8 [] (.mv (.t 1))) (.c (.q 9 [] (.lens (.t 8))) (.c (.q 10 [] (.bin .neq (.t 7) (.t 9))) .nil)))))) t81_1) t81_10)
def t81_11 := b81_11
theorem u81_11 : vcK P t81_11 k e w = vcK P b81_11 k e w := rfl
abbrev b81_0 : X := (.seq (.reg [0, 1] (.c (.q 4 [] (.mv (.c (.bool false)))) .nil)) t81_11)
def x_lqSameS := b81_0
theorem u81_0 : vcK P x_lqSameS k e w = vcK P b81_0 k e w := rfl
def r_lqSameS : List XO := [(.mv (.t 4))]
theorem c_lqSameS : convF Try.prog [169, 170, 207, 208, 210, 227, 232, 233, 255, 259, 268, 269, 270, 280, 281, 296, 299, 306, 307, 309] Try.f81 [([0, 1], []), ([0, 1, 10], []), ([4], []), ([0, 1, 12, 13], []), ([13], [0, 1, 12]), ([0, 1, 12, 13, 14], []), ([0, 1, 5, 12, 13], []), ([0, 1, 12, 13, 24], []), ([4], []), ([0, 1, 12, 13], []), ([4], [])] = some (x_lqSameS, r_lqSameS) := by kernel_rfl
def us_lqSameS := aI @u81_0 (aI @u81_1 (aI @u81_2 (aI @u81_3 (aI @u81_4 (aI @u81_5 (aI @u81_6 (aI @u81_7 (aI @u81_8 (aI @u81_9 (aI @u81_10 @u81_11))))))))))
abbrev b109_1 : X := (.cond (.t 10) (.seq (.reg [4] (.c (.q 4 [] (.mv (.c (.bool false)))) .nil)) .ret) .skip)
def t109_1 := b109_1
theorem u109_1 : vcK P t109_1 k e w = vcK P b109_1 k e w := rfl
abbrev b109_2 : X := (.cond (.t 24) (.seq (.reg [4] (.c (.q 4 [] (.mv (.c (.bool false)))) .nil)) .ret) .skip)
def t109_2 := b109_2
theorem u109_2 : vcK P t109_2 k e w = vcK P b109_2 k e w := rfl
abbrev b109_3 : X := (.seq (.drw [0, 1, 12, 13, 24] (.c (.q 16 [] (.mv (.t 0))) (.c (.q 17 [] (.mv (.t 5))) (.c (.q 18 [] (.ia 1 (.t 16) (.t 17))) (.c (.q 19 [] (.ld (.t 18))) (.c (.q 20 [] (.mv (.t 1))) (.c (.q 21 [] (.mv (.t 5))) (.c (.q 22 [] (.ia 1 (.t 20) (.t 21))) (.c (.q 23 [] (.ld (.t 22))) (.c (.q 24 [] (.bin .neq (.t 19) (.t 23))) .nil)))))))))) t109_2)
def t109_3 := b109_3
theorem u109_3 : vcK P t109_3 k e w = vcK P b109_3 k e w := rfl
abbrev b109_4 : X := (.reg [0, 1, 12, 13] (.c (.q 25 [] (.bin .add (.t 13) (.c (.int .i64 1)))) (.c (.q 13 [] (.mv (.t 25))) .nil)))
def t109_4 := b109_4
theorem u109_4 : vcK P t109_4 k e w = vcK P b109_4 k e w := rfl
abbrev b109_5 : X := (.seq (.blk 1 (.seq (.reg [0, 1, 5, 12, 13] (.c (.q 15 [] (.mv (.t 13))) (.c (.q 5 [] (.mv (.t 15))) .nil))) t109_3)) t109_4)
def t109_5 := b109_5
theorem u109_5 : vcK P t109_5 k e w = vcK P b109_5 k e w := rfl
abbrev b109_6 : X := (.seq (.cond (.t 14) .skip (.exit 0)) t109_5)
def t109_6 := b109_6
theorem u109_6 : vcK P t109_6 k e w = vcK P b109_6 k e w := rfl
abbrev b109_7 : X := (.seq (.reg [0, 1, 12, 13, 14] (.c (.q 14 [] (.bin .lss (.t 13) (.t 12))) .nil)) t109_6)
def t109_7 := b109_7
theorem u109_7 : vcK P t109_7 k e w = vcK P b109_7 k e w := rfl
abbrev b109_8 : X := (.blk 0 (.loop [13] [0, 1, 12] t109_7))
def t109_8 := b109_8
theorem u109_8 : vcK P t109_8 k e w = vcK P b109_8 k e w := rfl
abbrev b109_9 : X := (.seq (.reg [4] (.c (.q 4 [] (.mv (.c (.bool true)))) .nil)) .ret)
def t109_9 := b109_9
theorem u109_9 : vcK P t109_9 k e w = vcK P b109_9 k e w := rfl
abbrev b109_10 : X := (.seq (.seq (.reg [0, 1, 12, 13] (.c (.q 11 [] (.mv (.t 0))) (.c (.q 12 [] (.lens (.t 11))) (.c (.q 13 [] (.mv (.c (.int .i64 0)))) .nil)))) t109_8) t109_9)
def t109_10 := b109_10
theorem u109_10 : vcK P t109_10 k e w = vcK P b109_10 k e w := rfl
abbrev b109_11 : X := (.seq (.seq (.reg [0, 1, 10] (.c (.q 6 [] (.mv (.t 0))) (.c (.q 7 [] (.lens (.t 6))) (.c (.q 8 [] (.mv (.t 1))) (.c (.q 9 [] (.lens (.t 8))) (.c (.q 10 [] (.bin .neq (.t 7) (.t 9))) .nil)))))) t109_1) t109_10)
def t109_11 := b109_11
theorem u109_11 : vcK P t109_11 k e w = vcK P b109_11 k e w := rfl
abbrev b109_0 : X := (.seq (.reg [0, 1] (.c (.q 4 [] (.mv (.c (.bool false)))) .nil)) t109_11)
def x_lqSameN := b109_0
theorem u109_0 : vcK P x_lqSameN k e w = vcK P b109_0 k e w := rfl
def r_lqSameN : List XO := [(.mv (.t 4))]
theorem c_lqSameN : convF Try.prog [169, 170, 207, 208, 210, 227, 232, 233, 255, 259, 268, 269, 270, 280, 281, 296, 299, 306, 307, 309] Try.f109 [([0, 1], []), ([0, 1, 10], []), ([4], []), ([0, 1, 12, 13], []), ([13], [0, 1, 12]), ([0, 1, 12, 13, 14], []), ([0, 1, 5, 12, 13], []), ([0, 1, 12, 13, 24], []), ([4], []), ([0, 1, 12, 13], []), ([4], [])] = some (x_lqSameN, r_lqSameN) := by kernel_rfl
def us_lqSameN := aI @u109_0 (aI @u109_1 (aI @u109_2 (aI @u109_3 (aI @u109_4 (aI @u109_5 (aI @u109_6 (aI @u109_7 (aI @u109_8 (aI @u109_9 (aI @u109_10 @u109_11))))))))))
abbrev b93_1 : X := (.cond (.t 10) (.seq (.reg [4] (.c (.q 4 [] (.mv (.c (.bool false)))) .nil)) .ret) .skip)
def t93_1 := b93_1
theorem u93_1 : vcK P t93_1 k e w = vcK P b93_1 k e w := rfl
abbrev b93_2 : X := (.cond (.t 24) (.seq (.reg [4] (.c (.q 4 [] (.mv (.c (.bool false)))) .nil)) .ret) .skip)
def t93_2 := b93_2
theorem u93_2 : vcK P t93_2 k e w = vcK P b93_2 k e w := rfl
abbrev b93_3 : X := (.seq (.drw [0, 1, 12, 13, 24] (.c (.q 16 [] (.mv (.t 0))) (.c (.q 17 [] (.mv (.t 5))) (.c (.q 18 [] (.ia 1 (.t 16) (.t 17))) (.c (.q 19 [] (.ld (.t 18))) (.c (.q 20 [] (.mv (.t 1))) (.c (.q 21 [] (.mv (.t 5))) (.c (.q 22 [] (.ia 1 (.t 20) (.t 21))) (.c (.q 23 [] (.ld (.t 22))) (.c (.q 24 [] (.bin .neq (.t 19) (.t 23))) .nil)))))))))) t93_2)
def t93_3 := b93_3
theorem u93_3 : vcK P t93_3 k e w = vcK P b93_3 k e w := rfl
abbrev b93_4 : X := (.reg [0, 1, 12, 13] (.c (.q 25 [] (.bin .add (.t 13) (.c (.int .i64 1)))) (.c (.q 13 [] (.mv (.t 25))) .nil)))
def t93_4 := b93_4
theorem u93_4 : vcK P t93_4 k e w = vcK P b93_4 k e w := rfl
abbrev b93_5 : X := (.seq (.blk 1 (.seq (.reg [0, 1, 5, 12, 13] (.c (.q 15 [] (.mv (.t 13))) (.c (.q 5 [] (.mv (.t 15))) .nil))) t93_3)) t93_4)
def t93_5 := b93_5
theorem u93_5 : vcK P t93_5 k e w = vcK P b93_5 k e w := rfl
abbrev b93_6 : X := (.seq (.cond (.t 14) .skip (.exit 0)) t93_5)
def t93_6 := b93_6
theorem u93_6 : vcK P t93_6 k e w = vcK P b93_6 k e w := rfl
abbrev b93_7 : X := (.seq (.reg [0, 1, 12, 13, 14] (.c (.q 14 [] (.bin .lss (.t 13) (.t 12))) .nil)) t93_6)
def t93_7 := b93_7
theorem u93_7 : vcK P t93_7 k e w = vcK P b93_7 k e w := rfl
abbrev b93_8 : X := (.blk 0 (.loop [13] [0, 1, 12] t93_7))
def t93_8 := b93_8
theorem u93_8 : vcK P t93_8 k e w = vcK P b93_8 k e w := rfl
abbrev b93_9 : X := (.seq (.reg [4] (.c (.q 4 [] (.mv (.c (.bool true)))) .nil)) .ret)
def t93_9 := b93_9
theorem u93_9 : vcK P t93_9 k e w = vcK P b93_9 k e w := rfl
abbrev b93_10 : X := (.seq (.seq (.reg [0, 1, 12, 13] (.c (.q 11 [] (.mv (.t 0))) (.c (.q 12 [] (.lens (.t 11))) (.c (.q 13 [] (.mv (.c (.int .i64 0)))) .nil)))) t93_8) t93_9)
def t93_10 := b93_10
theorem u93_10 : vcK P t93_10 k e w = vcK P b93_10 k e w := rfl
abbrev b93_11 : X := (.seq (.seq (.reg [0, 1, 10] (.c (.q 6 [] (.mv (.t 0))) (.c (.q 7 [] (.lens (.t 6))) (.c (.q 8 [] (.mv (.t 1))) (.c (.q 9 [] (.lens (.t 8))) (.c (.q 10 [] (.bin .neq (.t 7) (.t 9))) .nil)))))) t93_1) t93_10)
def t93_11 := b93_11
theorem u93_11 : vcK P t93_11 k e w = vcK P b93_11 k e w := rfl
abbrev b93_0 : X := (.seq (.reg [0, 1] (.c (.q 4 [] (.mv (.c (.bool false)))) .nil)) t93_11)
def x_lsameTexts := b93_0
theorem u93_0 : vcK P x_lsameTexts k e w = vcK P b93_0 k e w := rfl
def r_lsameTexts : List XO := [(.mv (.t 4))]
theorem c_lsameTexts : convF Try.prog [169, 170, 207, 208, 210, 227, 232, 233, 255, 259, 268, 269, 270, 280, 281, 296, 299, 306, 307, 309] Try.f93 [([0, 1], []), ([0, 1, 10], []), ([4], []), ([0, 1, 12, 13], []), ([13], [0, 1, 12]), ([0, 1, 12, 13, 14], []), ([0, 1, 5, 12, 13], []), ([0, 1, 12, 13, 24], []), ([4], []), ([0, 1, 12, 13], []), ([4], [])] = some (x_lsameTexts, r_lsameTexts) := by kernel_rfl
def us_lsameTexts := aI @u93_0 (aI @u93_1 (aI @u93_2 (aI @u93_3 (aI @u93_4 (aI @u93_5 (aI @u93_6 (aI @u93_7 (aI @u93_8 (aI @u93_9 (aI @u93_10 @u93_11))))))))))
abbrev b110_1 : X := (.reg [3, 6, 7, 8] (.c (.q 12 [] (.mv (.t 3))) (.c (.q 13 [] (.bin .mul (.c (.int .i64 31)) (.t 12))) (.c (.q 14 [] (.mv (.t 5))) (.c (.q 15 [] (.cvi .i64 (.t 14))) (.c (.q 16 [] (.bin .add (.t 13) (.t 15))) (.c (.q 17 [] (.bin .rem (.t 16) (.c (.int .i64 1000003)))) (.c (.q 3 [] (.mv (.t 17))) .nil))))))))
def t110_1 := b110_1
theorem u110_1 : vcK P t110_1 k e w = vcK P b110_1 k e w := rfl
abbrev b110_2 : X := (.reg [3, 6, 7, 8] (.c (.q 18 [] (.bin .add (.t 8) (.c (.int .i64 1)))) (.c (.q 8 [] (.mv (.t 18))) .nil)))
def t110_2 := b110_2
theorem u110_2 : vcK P t110_2 k e w = vcK P b110_2 k e w := rfl
abbrev b110_3 : X := (.seq (.blk 1 (.seq (.reg [3, 5, 6, 7, 8] (.c (.q 10 [] (.ia 1 (.t 6) (.t 8))) (.c (.q 11 [] (.ld (.t 10))) (.c (.q 5 [] (.mv (.t 11))) .nil)))) t110_1)) t110_2)
def t110_3 := b110_3
theorem u110_3 : vcK P t110_3 k e w = vcK P b110_3 k e w := rfl
abbrev b110_4 : X := (.seq (.cond (.t 9) .skip (.exit 0)) t110_3)
def t110_4 := b110_4
theorem u110_4 : vcK P t110_4 k e w = vcK P b110_4 k e w := rfl
abbrev b110_5 : X := (.seq (.reg [3, 6, 7, 8, 9] (.c (.q 9 [] (.bin .lss (.t 8) (.t 7))) .nil)) t110_4)
def t110_5 := b110_5
theorem u110_5 : vcK P t110_5 k e w = vcK P b110_5 k e w := rfl
abbrev b110_6 : X := (.blk 0 (.loop [3, 8] [6, 7] t110_5))
def t110_6 := b110_6
theorem u110_6 : vcK P t110_6 k e w = vcK P b110_6 k e w := rfl
abbrev b110_7 : X := (.seq (.reg [2] (.c (.q 19 [] (.mv (.t 3))) (.c (.q 2 [] (.mv (.t 19))) .nil))) .ret)
def t110_7 := b110_7
theorem u110_7 : vcK P t110_7 k e w = vcK P b110_7 k e w := rfl
abbrev b110_8 : X := (.seq (.seq (.reg [3, 6, 7, 8] (.c (.q 6 [] (.mv (.t 0))) (.c (.q 7 [] (.lens (.t 6))) (.c (.q 8 [] (.mv (.c (.int .i64 0)))) .nil)))) t110_6) t110_7)
def t110_8 := b110_8
theorem u110_8 : vcK P t110_8 k e w = vcK P b110_8 k e w := rfl
abbrev b110_9 : X := (.seq (.reg [0, 3] (.c (.q 3 [] (.mv (.c (.int .i64 0)))) .nil)) t110_8)
def t110_9 := b110_9
theorem u110_9 : vcK P t110_9 k e w = vcK P b110_9 k e w := rfl
abbrev b110_0 : X := (.seq (.reg [0] (.c (.q 2 [] (.mv (.c (.int .i64 0)))) .nil)) t110_9)
def x_lqNumber := b110_0
theorem u110_0 : vcK P x_lqNumber k e w = vcK P b110_0 k e w := rfl
def r_lqNumber : List XO := [(.mv (.t 2))]
theorem c_lqNumber : convF Try.prog [169, 170, 207, 208, 210, 227, 232, 233, 255, 259, 268, 269, 270, 280, 281, 296, 299, 306, 307, 309] Try.f110 [([0], []), ([0, 3], []), ([3, 6, 7, 8], []), ([3, 8], [6, 7]), ([3, 6, 7, 8, 9], []), ([3, 5, 6, 7, 8], []), ([3, 6, 7, 8], []), ([3, 6, 7, 8], []), ([2], [])] = some (x_lqNumber, r_lqNumber) := by kernel_rfl
def us_lqNumber := aI @u110_0 (aI @u110_1 (aI @u110_2 (aI @u110_3 (aI @u110_4 (aI @u110_5 (aI @u110_6 (aI @u110_7 (aI @u110_8 @u110_9))))))))
end

theorem lqSameS_ok (v1 v2 : Value) (l1 l2 : List (List UInt8)) (w : World) (h1 : Sq fS 1 w v1 l1) (h2 : Sq fS 1 w v2 l2) (hl : l1.length ≤ 1000000000) : Fn 81 [v1, v2] w (fun v _ => v = .bool (decide (l1 = l2))) := by
  (refine callsV_of mix Try.func81 c_lqSameS ?_; simp only [↓vsd, vsn, gW, qd, qv, ev, pick, argE, zipE, ne_eq, eq_self, forall_const, implies_true, if_true, if_false, reduceIte, reduceCtorEq, Nat.reduceEqDiff, Nat.reduceAdd, Nat.reduceLT, ↓us_lqSameS, r_lqSameS])
  simp only [↓vsd, vsn, gW, qd, qv, ev, pick, argE, zipE, ne_eq, eq_self, forall_const, implies_true, if_true, if_false, reduceIte, reduceCtorEq, Nat.reduceEqDiff, Nat.reduceAdd, Nat.reduceLT, ↓us_lqSameS, r_lqSameS, h1.facts, h2.facts]
  refine ⟨fun hne => ⟨Ext.refl _, ?_⟩, fun he => ?_⟩
  · have : ¬ l1 = l2 := fun e => hne (by rw [e])
    simp [this]
  refine m_upto l1.length (fun k vs w' => vs = [.int .i64 k] ∧ l1.take k = l2.take k ∧ Ext w w') ⟨rfl, rfl, Ext.refl _⟩ ?_
  rintro k vs w3 hk ⟨rfl, heq, hx⟩
  have g1 := h1.ext hx
  have g2 := h2.ext hx
  by_cases hlt : k < l1.length
  · have hlt2 : k < l2.length := by omega
    have hltI : (k : Int) < l1.length := by omega
    have hltJ : ¬ (l1.length : Int) ≤ k := by omega
    simp only [↓vsd, vsn, gW, qd, qv, ev, pick, argE, zipE, ne_eq, eq_self, forall_const, implies_true, if_true, if_false, reduceIte, reduceCtorEq, Nat.reduceEqDiff, Nat.reduceAdd, Nat.reduceLT, ↓us_lqSameS, r_lqSameS, g1.facts, g2.facts, g1.at1 [] hlt, g2.at1 [] hlt2, hltI, hltJ]
    exact ⟨by omega, by omega, fun hne => ⟨hx, by simp [ne_at k hne]⟩, fun he2 => ⟨inR_i64 (by omega), UpTo.next hlt ⟨rfl, eq_take heq hlt hlt2 he2, dr hx⟩⟩⟩
  · obtain rfl : k = l1.length := by omega
    have hltI : ¬ (l1.length : Int) < l1.length := by omega
    simp only [↓vsd, vsn, gW, qd, qv, ev, pick, argE, zipE, ne_eq, eq_self, forall_const, implies_true, if_true, if_false, reduceIte, reduceCtorEq, Nat.reduceEqDiff, Nat.reduceAdd, Nat.reduceLT, ↓us_lqSameS, r_lqSameS, g1.facts, hltI]
    exact ⟨hx, by simp [eq_len heq (by omega)]⟩
theorem lqSameN_ok (v1 v2 : Value) (l1 l2 : List Int) (w : World) (h1 : Sq fI 1 w v1 l1) (h2 : Sq fI 1 w v2 l2) (hl : l1.length ≤ 1000000000) : Fn 109 [v1, v2] w (fun v _ => v = .bool (decide (l1 = l2))) := by
  (refine callsV_of mix Try.func109 c_lqSameN ?_; simp only [↓vsd, vsn, gW, qd, qv, ev, pick, argE, zipE, ne_eq, eq_self, forall_const, implies_true, if_true, if_false, reduceIte, reduceCtorEq, Nat.reduceEqDiff, Nat.reduceAdd, Nat.reduceLT, ↓us_lqSameN, r_lqSameN])
  simp only [↓vsd, vsn, gW, qd, qv, ev, pick, argE, zipE, ne_eq, eq_self, forall_const, implies_true, if_true, if_false, reduceIte, reduceCtorEq, Nat.reduceEqDiff, Nat.reduceAdd, Nat.reduceLT, ↓us_lqSameN, r_lqSameN, h1.facts, h2.facts]
  refine ⟨fun hne => ⟨Ext.refl _, ?_⟩, fun he => ?_⟩
  · have : ¬ l1 = l2 := fun e => hne (by rw [e])
    simp [this]
  refine m_upto l1.length (fun k vs w' => vs = [.int .i64 k] ∧ l1.take k = l2.take k ∧ Ext w w') ⟨rfl, rfl, Ext.refl _⟩ ?_
  rintro k vs w3 hk ⟨rfl, heq, hx⟩
  have g1 := h1.ext hx
  have g2 := h2.ext hx
  by_cases hlt : k < l1.length
  · have hlt2 : k < l2.length := by omega
    have hltI : (k : Int) < l1.length := by omega
    have hltJ : ¬ (l1.length : Int) ≤ k := by omega
    simp only [↓vsd, vsn, gW, qd, qv, ev, pick, argE, zipE, ne_eq, eq_self, forall_const, implies_true, if_true, if_false, reduceIte, reduceCtorEq, Nat.reduceEqDiff, Nat.reduceAdd, Nat.reduceLT, ↓us_lqSameN, r_lqSameN, g1.facts, g2.facts, g1.at1 0 hlt, g2.at1 0 hlt2, hltI, hltJ]
    exact ⟨by omega, by omega, fun hne => ⟨hx, by simp [ne_at k hne]⟩, fun he2 => ⟨inR_i64 (by omega), UpTo.next hlt ⟨rfl, eq_take heq hlt hlt2 he2, dr hx⟩⟩⟩
  · obtain rfl : k = l1.length := by omega
    have hltI : ¬ (l1.length : Int) < l1.length := by omega
    simp only [↓vsd, vsn, gW, qd, qv, ev, pick, argE, zipE, ne_eq, eq_self, forall_const, implies_true, if_true, if_false, reduceIte, reduceCtorEq, Nat.reduceEqDiff, Nat.reduceAdd, Nat.reduceLT, ↓us_lqSameN, r_lqSameN, g1.facts, hltI]
    exact ⟨hx, by simp [eq_len heq (by omega)]⟩
theorem lsameTexts_ok (v1 v2 : Value) (l1 l2 : List (List UInt8)) (w : World) (h1 : Sq fS 1 w v1 l1) (h2 : Sq fS 1 w v2 l2) (hl : l1.length ≤ 1000000000) : Fn 93 [v1, v2] w (fun v _ => v = .bool (decide (l1 = l2))) := by
  (refine callsV_of mix Try.func93 c_lsameTexts ?_; simp only [↓vsd, vsn, gW, qd, qv, ev, pick, argE, zipE, ne_eq, eq_self, forall_const, implies_true, if_true, if_false, reduceIte, reduceCtorEq, Nat.reduceEqDiff, Nat.reduceAdd, Nat.reduceLT, ↓us_lsameTexts, r_lsameTexts])
  simp only [↓vsd, vsn, gW, qd, qv, ev, pick, argE, zipE, ne_eq, eq_self, forall_const, implies_true, if_true, if_false, reduceIte, reduceCtorEq, Nat.reduceEqDiff, Nat.reduceAdd, Nat.reduceLT, ↓us_lsameTexts, r_lsameTexts, h1.facts, h2.facts]
  refine ⟨fun hne => ⟨Ext.refl _, ?_⟩, fun he => ?_⟩
  · have : ¬ l1 = l2 := fun e => hne (by rw [e])
    simp [this]
  refine m_upto l1.length (fun k vs w' => vs = [.int .i64 k] ∧ l1.take k = l2.take k ∧ Ext w w') ⟨rfl, rfl, Ext.refl _⟩ ?_
  rintro k vs w3 hk ⟨rfl, heq, hx⟩
  have g1 := h1.ext hx
  have g2 := h2.ext hx
  by_cases hlt : k < l1.length
  · have hlt2 : k < l2.length := by omega
    have hltI : (k : Int) < l1.length := by omega
    have hltJ : ¬ (l1.length : Int) ≤ k := by omega
    simp only [↓vsd, vsn, gW, qd, qv, ev, pick, argE, zipE, ne_eq, eq_self, forall_const, implies_true, if_true, if_false, reduceIte, reduceCtorEq, Nat.reduceEqDiff, Nat.reduceAdd, Nat.reduceLT, ↓us_lsameTexts, r_lsameTexts, g1.facts, g2.facts, g1.at1 [] hlt, g2.at1 [] hlt2, hltI, hltJ]
    exact ⟨by omega, by omega, fun hne => ⟨hx, by simp [ne_at k hne]⟩, fun he2 => ⟨inR_i64 (by omega), UpTo.next hlt ⟨rfl, eq_take heq hlt hlt2 he2, dr hx⟩⟩⟩
  · obtain rfl : k = l1.length := by omega
    have hltI : ¬ (l1.length : Int) < l1.length := by omega
    simp only [↓vsd, vsn, gW, qd, qv, ev, pick, argE, zipE, ne_eq, eq_self, forall_const, implies_true, if_true, if_false, reduceIte, reduceCtorEq, Nat.reduceEqDiff, Nat.reduceAdd, Nat.reduceLT, ↓us_lsameTexts, r_lsameTexts, g1.facts, hltI]
    exact ⟨hx, by simp [eq_len heq (by omega)]⟩
theorem lqNumber_ok (v : Value) (l : List UInt8) (hl : l.length ≤ 1048576) (w : World) (h : Sq fU 1 w v l) : Fn 110 [v] w (fun r _ => ∃ n : Nat, r = .int .i64 n ∧ n < 1000003) := by
  (refine callsV_of mix Try.func110 c_lqNumber ?_; simp only [↓vsd, vsn, gW, qd, qv, ev, pick, argE, zipE, ne_eq, eq_self, forall_const, implies_true, if_true, if_false, reduceIte, reduceCtorEq, Nat.reduceEqDiff, Nat.reduceAdd, Nat.reduceLT, ↓us_lqNumber, r_lqNumber])
  simp only [↓vsd, vsn, gW, qd, qv, ev, pick, argE, zipE, ne_eq, eq_self, forall_const, implies_true, if_true, if_false, reduceIte, reduceCtorEq, Nat.reduceEqDiff, Nat.reduceAdd, Nat.reduceLT, ↓us_lqNumber, r_lqNumber, h.facts]
  refine m_upto l.length (fun k vs w' => ∃ n : Nat, vs = [.int .i64 n, .int .i64 k] ∧ n < 1000003 ∧ Ext w w') ⟨0, rfl, by decide, Ext.refl _⟩ ?_
  rintro k vs w1 hk ⟨n, rfl, hn, hx⟩
  have hq := h.ext hx
  by_cases hlt : k < l.length
  · have hltI : (k : Int) < l.length := by omega
    have hltJ : ¬ (l.length : Int) ≤ k := by omega
    have hc := (l.getD k 0).toNat_lt
    have e : (31 * (n : Int) + ((l.getD k 0).toNat : Int)).tmod 1000003 = (((31 * n + (l.getD k 0).toNat) % 1000003 : Nat) : Int) := by
      rw [show 31 * (n : Int) + ((l.getD k 0).toNat : Int) = ((31 * n + (l.getD k 0).toNat : Nat) : Int) by omega]; rfl
    have hm := Nat.mod_lt (31 * n + (l.getD k 0).toNat) (show 0 < 1000003 by decide)
    simp only [↓vsd, vsn, gW, qd, qv, ev, pick, argE, zipE, ne_eq, eq_self, forall_const, implies_true, if_true, if_false, reduceIte, reduceCtorEq, Nat.reduceEqDiff, Nat.reduceAdd, Nat.reduceLT, ↓us_lqNumber, r_lqNumber, hq.facts, hq.at1 0 hlt, hltI, hltJ, e]
    exact ⟨by omega, inR_i64 (by omega), inR_i64 (by omega), by decide, inR_i64 (by omega), UpTo.next hlt ⟨_, rfl, hm, hx⟩⟩
  · obtain rfl : k = l.length := by omega
    have hltI : ¬ (l.length : Int) < l.length := by omega
    simp only [↓vsd, vsn, gW, qd, qv, ev, pick, argE, zipE, ne_eq, eq_self, forall_const, implies_true, if_true, if_false, reduceIte, reduceCtorEq, Nat.reduceEqDiff, Nat.reduceAdd, Nat.reduceLT, ↓us_lqNumber, r_lqNumber, hltI]
    exact ⟨hx, n, rfl, hn⟩
end Go.Proofs.Ytpnopboffalfnaa
