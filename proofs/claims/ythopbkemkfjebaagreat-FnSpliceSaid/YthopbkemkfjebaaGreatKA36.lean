/-
  How laws compare lists, and their number of some bytes.
  Conditions: none.
-/
import Derived.Test.YthopbkemkfjebaaGreatKA6
set_option linter.unusedSimpArgs false
set_option linter.unusedVariables false
set_option linter.defProp false
namespace Go.Proofs.YthopbkemkfjebaaGreat
open Go Go.RowKit
section
variable (P : Program) (k : KT) (e : Env) (w : World)
abbrev b34_1 : X := (.cond (.t 10) (.seq (.reg [4] (.c (.q 4 [] (.mv (.c (.bool false)))) .nil)) .ret) .skip)
def t34_1 := b34_1
theorem u34_1 : vcK P t34_1 k e w = vcK P b34_1 k e w := rfl
abbrev b34_2 : X := (.cond (.t 24) (.seq (.reg [4] (.c (.q 4 [] (.mv (.c (.bool false)))) .nil)) .ret) .skip)
def t34_2 := b34_2
theorem u34_2 : vcK P t34_2 k e w = vcK P b34_2 k e w := rfl
abbrev b34_3 : X := (.seq (.drw [0, 1, 12, 13, 24] (.c (.q 16 [] (.mv (.t 0))) (.c (.q 17 [] (.mv (.t 5))) (.c (.q 18 [] (.ia 1 (.t 16) (.t 17))) (.c (.q 19 [] (.ld (.t 18))) (.c (.q 20 [] (.mv (.t 1))) (.c (.q 21 [] (.mv (.t 5))) (.c (.q 22 [] (.ia 1 (.t 20) (.t 21))) (.c (.q 23 [] (.ld (.t 22))) (.c (.q 24 [] (.bin .neq (.t 19) (.t 23))) .nil)))))))))) t34_2)
def t34_3 := b34_3
theorem u34_3 : vcK P t34_3 k e w = vcK P b34_3 k e w := rfl
abbrev b34_4 : X := (.reg [0, 1, 12, 13] (.c (.q 25 [] (.bin .add (.t 13) (.c (.int .i64 1)))) (.c (.q 13 [] (.mv (.t 25))) .nil)))
def t34_4 := b34_4
theorem u34_4 : vcK P t34_4 k e w = vcK P b34_4 k e w := rfl
abbrev b34_5 : X := (.seq (.blk 1 (.seq (.reg [0, 1, 5, 12, 13] (.c (.q 15 [] (.mv (.t 13))) (.c (.q 5 [] (.mv (.t 15))) .nil))) t34_3)) t34_4)
def t34_5 := b34_5
theorem u34_5 : vcK P t34_5 k e w = vcK P b34_5 k e w := rfl
abbrev b34_6 : X := (.seq (.cond (.t 14) .skip (.exit 0)) t34_5)
def t34_6 := b34_6
theorem u34_6 : vcK P t34_6 k e w = vcK P b34_6 k e w := rfl
abbrev b34_7 : X := (.seq (.reg [0, 1, 12, 13, 14] (.c (.q 14 [] (.bin .lss (.t 13) (.t 12))) .nil)) t34_6)
def t34_7 := b34_7
theorem u34_7 : vcK P t34_7 k e w = vcK P b34_7 k e w := rfl
abbrev b34_8 : X := (.blk 0 (.loop [13] [0, 1, 12] t34_7))
def t34_8 := b34_8
theorem u34_8 : vcK P t34_8 k e w = vcK P b34_8 k e w := rfl
abbrev b34_9 : X := (.seq (.reg [4] (.c (.q 4 [] (.mv (.c (.bool true)))) .nil)) .ret)
def t34_9 := b34_9
theorem u34_9 : vcK P t34_9 k e w = vcK P b34_9 k e w := rfl
abbrev b34_10 : X := (.seq (.seq (.reg [0, 1, 12, 13] (.c (.q 11 [] (.mv (.t 0))) (.c (.q 12 [] (.lens (.t 11))) (.c (.q 13 [] (.mv (.c (.int .i64 0)))) .nil)))) t34_8) t34_9)
def t34_10 := b34_10
theorem u34_10 : vcK P t34_10 k e w = vcK P b34_10 k e w := rfl
abbrev b34_11 : X := (.seq (.seq (.reg [0, 1, 10] (.c (.q 6 [] (.mv (.t 0))) (.c (.q 7 [] (.lens (.t 6))) (.c (.q 8 [] (.mv (.t 1))) (.c (.q 9 [] (.lens (.t 8))) (.c (.q 10 [] (.bin .neq (.t 7) (.t 9))) .nil)))))) t34_1) t34_10)
def t34_11 := b34_11
theorem u34_11 : vcK P t34_11 k e w = vcK P b34_11 k e w := rfl
abbrev b34_0 : X := (.seq (.reg [0, 1] (.c (.q 4 [] (.mv (.c (.bool false)))) .nil)) t34_11)
def x_lqSameS := b34_0
theorem u34_0 : vcK P x_lqSameS k e w = vcK P b34_0 k e w := rfl
def r_lqSameS : List XO := [(.mv (.t 4))]
theorem c_lqSameS : convF Tryz.prog [56, 58, 59, 60, 61, 62, 72, 73, 77, 97, 98, 109, 110, 111, 112, 115, 128, 136] Tryz.f34 [([0, 1], []), ([0, 1, 10], []), ([4], []), ([0, 1, 12, 13], []), ([13], [0, 1, 12]), ([0, 1, 12, 13, 14], []), ([0, 1, 5, 12, 13], []), ([0, 1, 12, 13, 24], []), ([4], []), ([0, 1, 12, 13], []), ([4], [])] = some (x_lqSameS, r_lqSameS) := by kernel_rfl
def us_lqSameS :=  (aI (aI (aI @u34_0 (aI @u34_1 @u34_2)) (aI @u34_3 (aI @u34_4 @u34_5))) (aI (aI @u34_6 (aI @u34_7 @u34_8)) (aI @u34_9 (aI @u34_10 @u34_11))))
abbrev b14_1 : X := (.cond (.t 10) (.seq (.reg [4] (.c (.q 4 [] (.mv (.c (.bool false)))) .nil)) .ret) .skip)
def t14_1 := b14_1
theorem u14_1 : vcK P t14_1 k e w = vcK P b14_1 k e w := rfl
abbrev b14_2 : X := (.cond (.t 24) (.seq (.reg [4] (.c (.q 4 [] (.mv (.c (.bool false)))) .nil)) .ret) .skip)
def t14_2 := b14_2
theorem u14_2 : vcK P t14_2 k e w = vcK P b14_2 k e w := rfl
abbrev b14_3 : X := (.seq (.drw [0, 1, 12, 13, 24] (.c (.q 16 [] (.mv (.t 0))) (.c (.q 17 [] (.mv (.t 5))) (.c (.q 18 [] (.ia 1 (.t 16) (.t 17))) (.c (.q 19 [] (.ld (.t 18))) (.c (.q 20 [] (.mv (.t 1))) (.c (.q 21 [] (.mv (.t 5))) (.c (.q 22 [] (.ia 1 (.t 20) (.t 21))) (.c (.q 23 [] (.ld (.t 22))) (.c (.q 24 [] (.bin .neq (.t 19) (.t 23))) .nil)))))))))) t14_2)
def t14_3 := b14_3
theorem u14_3 : vcK P t14_3 k e w = vcK P b14_3 k e w := rfl
abbrev b14_4 : X := (.reg [0, 1, 12, 13] (.c (.q 25 [] (.bin .add (.t 13) (.c (.int .i64 1)))) (.c (.q 13 [] (.mv (.t 25))) .nil)))
def t14_4 := b14_4
theorem u14_4 : vcK P t14_4 k e w = vcK P b14_4 k e w := rfl
abbrev b14_5 : X := (.seq (.blk 1 (.seq (.reg [0, 1, 5, 12, 13] (.c (.q 15 [] (.mv (.t 13))) (.c (.q 5 [] (.mv (.t 15))) .nil))) t14_3)) t14_4)
def t14_5 := b14_5
theorem u14_5 : vcK P t14_5 k e w = vcK P b14_5 k e w := rfl
abbrev b14_6 : X := (.seq (.cond (.t 14) .skip (.exit 0)) t14_5)
def t14_6 := b14_6
theorem u14_6 : vcK P t14_6 k e w = vcK P b14_6 k e w := rfl
abbrev b14_7 : X := (.seq (.reg [0, 1, 12, 13, 14] (.c (.q 14 [] (.bin .lss (.t 13) (.t 12))) .nil)) t14_6)
def t14_7 := b14_7
theorem u14_7 : vcK P t14_7 k e w = vcK P b14_7 k e w := rfl
abbrev b14_8 : X := (.blk 0 (.loop [13] [0, 1, 12] t14_7))
def t14_8 := b14_8
theorem u14_8 : vcK P t14_8 k e w = vcK P b14_8 k e w := rfl
abbrev b14_9 : X := (.seq (.reg [4] (.c (.q 4 [] (.mv (.c (.bool true)))) .nil)) .ret)
def t14_9 := b14_9
theorem u14_9 : vcK P t14_9 k e w = vcK P b14_9 k e w := rfl
abbrev b14_10 : X := (.seq (.seq (.reg [0, 1, 12, 13] (.c (.q 11 [] (.mv (.t 0))) (.c (.q 12 [] (.lens (.t 11))) (.c (.q 13 [] (.mv (.c (.int .i64 0)))) .nil)))) t14_8) t14_9)
def t14_10 := b14_10
theorem u14_10 : vcK P t14_10 k e w = vcK P b14_10 k e w := rfl
abbrev b14_11 : X := (.seq (.seq (.reg [0, 1, 10] (.c (.q 6 [] (.mv (.t 0))) (.c (.q 7 [] (.lens (.t 6))) (.c (.q 8 [] (.mv (.t 1))) (.c (.q 9 [] (.lens (.t 8))) (.c (.q 10 [] (.bin .neq (.t 7) (.t 9))) .nil)))))) t14_1) t14_10)
def t14_11 := b14_11
theorem u14_11 : vcK P t14_11 k e w = vcK P b14_11 k e w := rfl
abbrev b14_0 : X := (.seq (.reg [0, 1] (.c (.q 4 [] (.mv (.c (.bool false)))) .nil)) t14_11)
def x_lqSameN := b14_0
theorem u14_0 : vcK P x_lqSameN k e w = vcK P b14_0 k e w := rfl
def r_lqSameN : List XO := [(.mv (.t 4))]
theorem c_lqSameN : convF Tryz.prog [56, 58, 59, 60, 61, 62, 72, 73, 77, 97, 98, 109, 110, 111, 112, 115, 128, 136] Tryz.f14 [([0, 1], []), ([0, 1, 10], []), ([4], []), ([0, 1, 12, 13], []), ([13], [0, 1, 12]), ([0, 1, 12, 13, 14], []), ([0, 1, 5, 12, 13], []), ([0, 1, 12, 13, 24], []), ([4], []), ([0, 1, 12, 13], []), ([4], [])] = some (x_lqSameN, r_lqSameN) := by kernel_rfl
def us_lqSameN :=  (aI (aI (aI @u14_0 (aI @u14_1 @u14_2)) (aI @u14_3 (aI @u14_4 @u14_5))) (aI (aI @u14_6 (aI @u14_7 @u14_8)) (aI @u14_9 (aI @u14_10 @u14_11))))
abbrev b20_1 : X := (.reg [3, 6, 7, 8] (.c (.q 12 [] (.mv (.t 3))) (.c (.q 13 [] (.bin .mul (.c (.int .i64 31)) (.t 12))) (.c (.q 14 [] (.mv (.t 5))) (.c (.q 15 [] (.cvi .i64 (.t 14))) (.c (.q 16 [] (.bin .add (.t 13) (.t 15))) (.c (.q 17 [] (.bin .rem (.t 16) (.c (.int .i64 1000003)))) (.c (.q 3 [] (.mv (.t 17))) .nil))))))))
def t20_1 := b20_1
theorem u20_1 : vcK P t20_1 k e w = vcK P b20_1 k e w := rfl
abbrev b20_2 : X := (.reg [3, 6, 7, 8] (.c (.q 18 [] (.bin .add (.t 8) (.c (.int .i64 1)))) (.c (.q 8 [] (.mv (.t 18))) .nil)))
def t20_2 := b20_2
theorem u20_2 : vcK P t20_2 k e w = vcK P b20_2 k e w := rfl
abbrev b20_3 : X := (.seq (.blk 1 (.seq (.reg [3, 5, 6, 7, 8] (.c (.q 10 [] (.ia 1 (.t 6) (.t 8))) (.c (.q 11 [] (.ld (.t 10))) (.c (.q 5 [] (.mv (.t 11))) .nil)))) t20_1)) t20_2)
def t20_3 := b20_3
theorem u20_3 : vcK P t20_3 k e w = vcK P b20_3 k e w := rfl
abbrev b20_4 : X := (.seq (.cond (.t 9) .skip (.exit 0)) t20_3)
def t20_4 := b20_4
theorem u20_4 : vcK P t20_4 k e w = vcK P b20_4 k e w := rfl
abbrev b20_5 : X := (.seq (.reg [3, 6, 7, 8, 9] (.c (.q 9 [] (.bin .lss (.t 8) (.t 7))) .nil)) t20_4)
def t20_5 := b20_5
theorem u20_5 : vcK P t20_5 k e w = vcK P b20_5 k e w := rfl
abbrev b20_6 : X := (.blk 0 (.loop [3, 8] [6, 7] t20_5))
def t20_6 := b20_6
theorem u20_6 : vcK P t20_6 k e w = vcK P b20_6 k e w := rfl
abbrev b20_7 : X := (.seq (.reg [2] (.c (.q 19 [] (.mv (.t 3))) (.c (.q 2 [] (.mv (.t 19))) .nil))) .ret)
def t20_7 := b20_7
theorem u20_7 : vcK P t20_7 k e w = vcK P b20_7 k e w := rfl
abbrev b20_8 : X := (.seq (.seq (.reg [3, 6, 7, 8] (.c (.q 6 [] (.mv (.t 0))) (.c (.q 7 [] (.lens (.t 6))) (.c (.q 8 [] (.mv (.c (.int .i64 0)))) .nil)))) t20_6) t20_7)
def t20_8 := b20_8
theorem u20_8 : vcK P t20_8 k e w = vcK P b20_8 k e w := rfl
abbrev b20_9 : X := (.seq (.reg [0, 3] (.c (.q 3 [] (.mv (.c (.int .i64 0)))) .nil)) t20_8)
def t20_9 := b20_9
theorem u20_9 : vcK P t20_9 k e w = vcK P b20_9 k e w := rfl
abbrev b20_0 : X := (.seq (.reg [0] (.c (.q 2 [] (.mv (.c (.int .i64 0)))) .nil)) t20_9)
def x_lqNumber := b20_0
theorem u20_0 : vcK P x_lqNumber k e w = vcK P b20_0 k e w := rfl
def r_lqNumber : List XO := [(.mv (.t 2))]
theorem c_lqNumber : convF Tryz.prog [56, 58, 59, 60, 61, 62, 72, 73, 77, 97, 98, 109, 110, 111, 112, 115, 128, 136] Tryz.f20 [([0], []), ([0, 3], []), ([3, 6, 7, 8], []), ([3, 8], [6, 7]), ([3, 6, 7, 8, 9], []), ([3, 5, 6, 7, 8], []), ([3, 6, 7, 8], []), ([3, 6, 7, 8], []), ([2], [])] = some (x_lqNumber, r_lqNumber) := by kernel_rfl
def us_lqNumber :=  (aI (aI (aI @u20_0 @u20_1) (aI @u20_2 (aI @u20_3 @u20_4))) (aI (aI @u20_5 @u20_6) (aI @u20_7 (aI @u20_8 @u20_9))))
end
theorem lqSameS_ok (v1 v2 : Value) (l1 l2 : List (List UInt8)) (w : World) (h1 : Sq fS 1 w v1 l1) (h2 : Sq fS 1 w v2 l2) (hl : l1.length ≤ 1000000000) : Fn 34 [v1, v2] w (fun v _ => v = .bool (decide (l1 = l2))) := by
  (refine callsV_of mix Tryz.func34 c_lqSameS ?_; simp only [↓vsd, vsn, gW, qd, qv, ev, pick, argE, zipE, ne_eq, eq_self, forall_const, implies_true, if_true, if_false, reduceIte, reduceCtorEq, Nat.reduceEqDiff, Nat.reduceAdd, Nat.reduceLT, ↓us_lqSameS, r_lqSameS])
  simp only [↓vsd, vsn, gW, qd, qv, ev, pick, argE, zipE, ne_eq, eq_self, forall_const, implies_true, if_true, if_false, reduceIte, reduceCtorEq, Nat.reduceEqDiff, Nat.reduceAdd, Nat.reduceLT, ↓us_lqSameS, r_lqSameS, h1.facts, h2.facts]
  refine ⟨fun hne => ⟨Ext.refl _, ?_⟩, fun he => ?_⟩
  · have : ¬ l1 = l2 := fun e => hne (by rw [e])
    simp [this]
  refine m_upto l1.length (fun k vs w' => vs = [.int .i64 k] ∧ l1.take k = l2.take k ∧ Ext w w') ⟨rfl, rfl, Ext.refl _⟩ ?_
  rintro k vs w3 hk ⟨rfl, heq, hx⟩
  have g1 := h1.ext hx
  have g2 := h2.ext hx
  by_cases hlt : k < l1.length
  · have hlt2 : k < l2.length := by omega
    have hltI : (k : Int) < l1.length := by omega
    have hltJ : ¬ (l1.length : Int) ≤ k := by omega
    simp only [↓vsd, vsn, gW, qd, qv, ev, pick, argE, zipE, ne_eq, eq_self, forall_const, implies_true, if_true, if_false, reduceIte, reduceCtorEq, Nat.reduceEqDiff, Nat.reduceAdd, Nat.reduceLT, ↓us_lqSameS, r_lqSameS, g1.facts, g2.facts, g1.at1 [] hlt, g2.at1 [] hlt2, hltI, hltJ]
    exact ⟨by omega, by omega, fun hne => ⟨hx, by simp [ne_at k hne]⟩, fun he2 => ⟨inR_i64 (by omega), UpTo.next hlt ⟨rfl, eq_take heq hlt hlt2 he2, dr hx⟩⟩⟩
  · obtain rfl : k = l1.length := by omega
    have hltI : ¬ (l1.length : Int) < l1.length := by omega
    simp only [↓vsd, vsn, gW, qd, qv, ev, pick, argE, zipE, ne_eq, eq_self, forall_const, implies_true, if_true, if_false, reduceIte, reduceCtorEq, Nat.reduceEqDiff, Nat.reduceAdd, Nat.reduceLT, ↓us_lqSameS, r_lqSameS, g1.facts, hltI]
    exact ⟨hx, by simp [eq_len heq (by omega)]⟩
theorem lqSameN_ok (v1 v2 : Value) (l1 l2 : List Int) (w : World) (h1 : Sq fI 1 w v1 l1) (h2 : Sq fI 1 w v2 l2) (hl : l1.length ≤ 1000000000) : Fn 14 [v1, v2] w (fun v _ => v = .bool (decide (l1 = l2))) := by
  (refine callsV_of mix Tryz.func14 c_lqSameN ?_; simp only [↓vsd, vsn, gW, qd, qv, ev, pick, argE, zipE, ne_eq, eq_self, forall_const, implies_true, if_true, if_false, reduceIte, reduceCtorEq, Nat.reduceEqDiff, Nat.reduceAdd, Nat.reduceLT, ↓us_lqSameN, r_lqSameN])
  simp only [↓vsd, vsn, gW, qd, qv, ev, pick, argE, zipE, ne_eq, eq_self, forall_const, implies_true, if_true, if_false, reduceIte, reduceCtorEq, Nat.reduceEqDiff, Nat.reduceAdd, Nat.reduceLT, ↓us_lqSameN, r_lqSameN, h1.facts, h2.facts]
  refine ⟨fun hne => ⟨Ext.refl _, ?_⟩, fun he => ?_⟩
  · have : ¬ l1 = l2 := fun e => hne (by rw [e])
    simp [this]
  refine m_upto l1.length (fun k vs w' => vs = [.int .i64 k] ∧ l1.take k = l2.take k ∧ Ext w w') ⟨rfl, rfl, Ext.refl _⟩ ?_
  rintro k vs w3 hk ⟨rfl, heq, hx⟩
  have g1 := h1.ext hx
  have g2 := h2.ext hx
  by_cases hlt : k < l1.length
  · have hlt2 : k < l2.length := by omega
    have hltI : (k : Int) < l1.length := by omega
    have hltJ : ¬ (l1.length : Int) ≤ k := by omega
    simp only [↓vsd, vsn, gW, qd, qv, ev, pick, argE, zipE, ne_eq, eq_self, forall_const, implies_true, if_true, if_false, reduceIte, reduceCtorEq, Nat.reduceEqDiff, Nat.reduceAdd, Nat.reduceLT, ↓us_lqSameN, r_lqSameN, g1.facts, g2.facts, g1.at1 0 hlt, g2.at1 0 hlt2, hltI, hltJ]
    exact ⟨by omega, by omega, fun hne => ⟨hx, by simp [ne_at k hne]⟩, fun he2 => ⟨inR_i64 (by omega), UpTo.next hlt ⟨rfl, eq_take heq hlt hlt2 he2, dr hx⟩⟩⟩
  · obtain rfl : k = l1.length := by omega
    have hltI : ¬ (l1.length : Int) < l1.length := by omega
    simp only [↓vsd, vsn, gW, qd, qv, ev, pick, argE, zipE, ne_eq, eq_self, forall_const, implies_true, if_true, if_false, reduceIte, reduceCtorEq, Nat.reduceEqDiff, Nat.reduceAdd, Nat.reduceLT, ↓us_lqSameN, r_lqSameN, g1.facts, hltI]
    exact ⟨hx, by simp [eq_len heq (by omega)]⟩
theorem lqNumber_ok (v : Value) (l : List UInt8) (hl : l.length ≤ 1048576) (w : World) (h : Sq fU 1 w v l) : Fn 20 [v] w (fun r _ => ∃ n : Nat, r = .int .i64 n ∧ n < 1000003) := by
  (refine callsV_of mix Tryz.func20 c_lqNumber ?_; simp only [↓vsd, vsn, gW, qd, qv, ev, pick, argE, zipE, ne_eq, eq_self, forall_const, implies_true, if_true, if_false, reduceIte, reduceCtorEq, Nat.reduceEqDiff, Nat.reduceAdd, Nat.reduceLT, ↓us_lqNumber, r_lqNumber])
  simp only [↓vsd, vsn, gW, qd, qv, ev, pick, argE, zipE, ne_eq, eq_self, forall_const, implies_true, if_true, if_false, reduceIte, reduceCtorEq, Nat.reduceEqDiff, Nat.reduceAdd, Nat.reduceLT, ↓us_lqNumber, r_lqNumber, h.facts]
  refine m_upto l.length (fun k vs w' => ∃ n : Nat, vs = [.int .i64 n, .int .i64 k] ∧ n < 1000003 ∧ Ext w w') ⟨0, rfl, by decide, Ext.refl _⟩ ?_
  rintro k vs w1 hk ⟨n, rfl, hn, hx⟩
  have hq := h.ext hx
  by_cases hlt : k < l.length
  · have hltI : (k : Int) < l.length := by omega
    have hltJ : ¬ (l.length : Int) ≤ k := by omega
    have hc := (l.getD k 0).toNat_lt
    have e : (31 * (n : Int) + ((l.getD k 0).toNat : Int)).tmod 1000003 = (((31 * n + (l.getD k 0).toNat) % 1000003 : Nat) : Int) := by
      rw [show 31 * (n : Int) + ((l.getD k 0).toNat : Int) = ((31 * n + (l.getD k 0).toNat : Nat) : Int) by omega]; rfl
    have hm := Nat.mod_lt (31 * n + (l.getD k 0).toNat) (show 0 < 1000003 by decide)
    simp only [↓vsd, vsn, gW, qd, qv, ev, pick, argE, zipE, ne_eq, eq_self, forall_const, implies_true, if_true, if_false, reduceIte, reduceCtorEq, Nat.reduceEqDiff, Nat.reduceAdd, Nat.reduceLT, ↓us_lqNumber, r_lqNumber, hq.facts, hq.at1 0 hlt, hltI, hltJ, e]
    exact ⟨by omega, inR_i64 (by omega), inR_i64 (by omega), by decide, inR_i64 (by omega), UpTo.next hlt ⟨_, rfl, hm, hx⟩⟩
  · obtain rfl : k = l.length := by omega
    have hltI : ¬ (l.length : Int) < l.length := by omega
    simp only [↓vsd, vsn, gW, qd, qv, ev, pick, argE, zipE, ne_eq, eq_self, forall_const, implies_true, if_true, if_false, reduceIte, reduceCtorEq, Nat.reduceEqDiff, Nat.reduceAdd, Nat.reduceLT, ↓us_lqNumber, r_lqNumber, hltI]
    exact ⟨hx, n, rfl, hn⟩
end Go.Proofs.YthopbkemkfjebaaGreat
