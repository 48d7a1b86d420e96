/-
  Contracts of the smallest functions: bounds, rows.
  Conditions: none.
-/
import Derived.Test.YthopbkemkfjebaaGreatKPa
import Derived.Test.YthopbkemkfjebaaGreatKVf
set_option linter.unusedSimpArgs false
set_option linter.unusedVariables false
set_option linter.defProp false
namespace Go.Proofs.YthopbkemkfjebaaGreat
open Go Go.RowKit
section
variable (P : Program) (k : KT) (e : Env) (w : World)
abbrev b75_1 : X := (.seq (.reg [6] (.c (.q 7 [] (.mv (.t 1))) (.c (.q 8 [] (.mv (.t 0))) (.c (.q 9 [] (.bin .leq (.t 7) (.t 8))) (.c (.q 10 [] (.mv (.t 9))) (.c (.q 11 [(10, true)] (.mv (.t 0))) (.c (.q 12 [(10, true)] (.mv (.t 2))) (.c (.q 13 [(10, true)] (.bin .leq (.t 11) (.t 12))) (.c (.q 14 [] (.pick (.t 10) (.t 13) (.c (.bool false)))) (.c (.q 6 [] (.mv (.t 14))) .nil)))))))))) .ret)
def t75_1 := b75_1
theorem u75_1 : vcK P t75_1 k e w = vcK P b75_1 k e w := rfl
abbrev b75_0 : X := (.seq (.reg [0, 1, 2] (.c (.q 6 [] (.mv (.c (.bool false)))) .nil)) t75_1)
def x_iwithin := b75_0
theorem u75_0 : vcK P x_iwithin k e w = vcK P b75_0 k e w := rfl
def r_iwithin : List XO := [(.mv (.t 6))]
theorem c_iwithin : convF Tryz.prog [56, 58, 59, 60, 61, 62, 72, 73, 77, 97, 98, 109, 110, 111, 112, 115, 128, 136] Tryz.f75 [([0, 1, 2], []), ([6], [])] = some (x_iwithin, r_iwithin) := by kernel_rfl
def us_iwithin :=  (aI @u75_0 @u75_1)
abbrev b67_1 : X := (.seq (.reg [6] (.c (.q 7 [] (.mv (.t 0))) (.c (.q 8 [] (.mv (.t 1))) (.c (.q 9 [] (.bin .geq (.t 7) (.t 8))) (.c (.q 10 [] (.mv (.t 9))) (.c (.q 11 [(10, true)] (.mv (.t 0))) (.c (.q 12 [(10, true)] (.mv (.t 2))) (.c (.q 13 [(10, true)] (.bin .leq (.t 11) (.t 12))) (.c (.q 14 [] (.pick (.t 10) (.t 13) (.c (.bool false)))) (.c (.q 6 [] (.mv (.t 14))) .nil)))))))))) .ret)
def t67_1 := b67_1
theorem u67_1 : vcK P t67_1 k e w = vcK P b67_1 k e w := rfl
abbrev b67_0 : X := (.seq (.reg [0, 1, 2] (.c (.q 6 [] (.mv (.c (.bool false)))) .nil)) t67_1)
def x_sl1In := b67_0
theorem u67_0 : vcK P x_sl1In k e w = vcK P b67_0 k e w := rfl
def r_sl1In : List XO := [(.mv (.t 6))]
theorem c_sl1In : convF Tryz.prog [56, 58, 59, 60, 61, 62, 72, 73, 77, 97, 98, 109, 110, 111, 112, 115, 128, 136] Tryz.f67 [([0, 1, 2], []), ([6], [])] = some (x_sl1In, r_sl1In) := by kernel_rfl
def us_sl1In :=  (aI @u67_0 @u67_1)
abbrev b149_1 : X := (.seq (.reg [2] (.c (.q 3 [] (.mv (.t 0))) (.c (.q 4 [] (.bin .leq (.c (.int .i64 3)) (.t 3))) (.c (.q 5 [] (.mv (.t 4))) (.c (.q 6 [(5, true)] (.mv (.t 0))) (.c (.q 7 [(5, true)] (.bin .leq (.t 6) (.c (.int .i64 8)))) (.c (.q 8 [] (.pick (.t 5) (.t 7) (.c (.bool false)))) (.c (.q 2 [] (.mv (.t 8))) .nil)))))))) .ret)
def t149_1 := b149_1
theorem u149_1 : vcK P t149_1 k e w = vcK P b149_1 k e w := rfl
abbrev b149_0 : X := (.seq (.reg [0] (.c (.q 2 [] (.mv (.c (.bool false)))) .nil)) t149_1)
def x_iisStage := b149_0
theorem u149_0 : vcK P x_iisStage k e w = vcK P b149_0 k e w := rfl
def r_iisStage : List XO := [(.mv (.t 2))]
theorem c_iisStage : convF Tryz.prog [56, 58, 59, 60, 61, 62, 72, 73, 77, 97, 98, 109, 110, 111, 112, 115, 128, 136] Tryz.f149 [([0], []), ([2], [])] = some (x_iisStage, r_iisStage) := by kernel_rfl
def us_iisStage :=  (aI @u149_0 @u149_1)
abbrev b137_1 : X := (.cond (.t 9) (.seq (.reg [2] (.c (.q 2 [] (.mv (.c (.bool false)))) .nil)) .ret) .skip)
def t137_1 := b137_1
theorem u137_1 : vcK P t137_1 k e w = vcK P b137_1 k e w := rfl
abbrev b137_2 : X := (.cond (.t 34) (.seq (.reg [2] (.c (.q 2 [] (.mv (.c (.bool false)))) .nil)) .ret) .skip)
def t137_2 := b137_2
theorem u137_2 : vcK P t137_2 k e w = vcK P b137_2 k e w := rfl
abbrev b137_3 : X := (.reg [0, 3, 11, 12] (.c (.q 35 [] (.mv (.t 3))) (.c (.q 36 [] (.mv (.t 5))) (.c (.q 37 [] (.bin .shl (.c (.int .i64 1)) (.t 36))) (.c (.q 38 [] (.bin .or (.t 35) (.t 37))) (.c (.q 3 [] (.mv (.t 38))) .nil))))))
def t137_3 := b137_3
theorem u137_3 : vcK P t137_3 k e w = vcK P b137_3 k e w := rfl
abbrev b137_4 : X := (.seq (.seq (.reg [0, 3, 5, 11, 12, 34] (.c (.q 20 [] (.mv (.t 5))) (.c (.q 21 [] (.bin .lss (.t 20) (.c (.int .i64 0)))) (.c (.q 22 [] (.mv (.t 21))) (.c (.q 23 [(22, false)] (.mv (.t 5))) (.c (.q 24 [(22, false)] (.mv (.t 0))) (.c (.q 25 [(22, false)] (.len (.t 24))) (.c (.q 26 [(22, false)] (.bin .geq (.t 23) (.t 25))) (.c (.q 27 [] (.pick (.t 22) (.c (.bool true)) (.t 26))) (.c (.q 28 [] (.mv (.t 27))) (.c (.q 29 [(28, false)] (.mv (.t 3))) (.c (.q 30 [(28, false)] (.mv (.t 5))) (.c (.q 31 [(28, false)] (.bin .shr (.t 29) (.t 30))) (.c (.q 32 [(28, false)] (.bin .and (.t 31) (.c (.int .i64 1)))) (.c (.q 33 [(28, false)] (.bin .eql (.t 32) (.c (.int .i64 1)))) (.c (.q 34 [] (.pick (.t 28) (.c (.bool true)) (.t 33))) .nil)))))))))))))))) t137_2) t137_3)
def t137_4 := b137_4
theorem u137_4 : vcK P t137_4 k e w = vcK P b137_4 k e w := rfl
abbrev b137_5 : X := (.seq (.reg [0, 3, 5, 11, 12] (.c (.q 15 [] (.mv (.t 0))) (.c (.q 16 [] (.mv (.t 4))) (.c (.q 17 [] (.idx (.t 15) (.t 16))) (.c (.q 18 [] (.cvi .i64 (.t 17))) (.c (.q 19 [] (.bin .sub (.t 18) (.c (.int .i64 49)))) (.c (.q 5 [] (.mv (.t 19))) .nil))))))) t137_4)
def t137_5 := b137_5
theorem u137_5 : vcK P t137_5 k e w = vcK P b137_5 k e w := rfl
abbrev b137_6 : X := (.reg [0, 3, 11, 12] (.c (.q 39 [] (.bin .add (.t 12) (.c (.int .i64 1)))) (.c (.q 12 [] (.mv (.t 39))) .nil)))
def t137_6 := b137_6
theorem u137_6 : vcK P t137_6 k e w = vcK P b137_6 k e w := rfl
abbrev b137_7 : X := (.seq (.blk 1 (.seq (.reg [0, 3, 4, 11, 12] (.c (.q 14 [] (.mv (.t 12))) (.c (.q 4 [] (.mv (.t 14))) .nil))) t137_5)) t137_6)
def t137_7 := b137_7
theorem u137_7 : vcK P t137_7 k e w = vcK P b137_7 k e w := rfl
abbrev b137_8 : X := (.seq (.cond (.t 13) .skip (.exit 0)) t137_7)
def t137_8 := b137_8
theorem u137_8 : vcK P t137_8 k e w = vcK P b137_8 k e w := rfl
abbrev b137_9 : X := (.seq (.reg [0, 3, 11, 12, 13] (.c (.q 13 [] (.bin .lss (.t 12) (.t 11))) .nil)) t137_8)
def t137_9 := b137_9
theorem u137_9 : vcK P t137_9 k e w = vcK P b137_9 k e w := rfl
abbrev b137_10 : X := (.blk 0 (.loop [3, 12] [0, 11] t137_9))
def t137_10 := b137_10
theorem u137_10 : vcK P t137_10 k e w = vcK P b137_10 k e w := rfl
abbrev b137_11 : X := (.seq (.reg [2] (.c (.q 2 [] (.mv (.c (.bool true)))) .nil)) .ret)
def t137_11 := b137_11
theorem u137_11 : vcK P t137_11 k e w = vcK P b137_11 k e w := rfl
abbrev b137_12 : X := (.seq (.seq (.reg [0, 3, 11, 12] (.c (.q 10 [] (.mv (.t 0))) (.c (.q 11 [] (.len (.t 10))) (.c (.q 12 [] (.mv (.c (.int .i64 0)))) .nil)))) t137_10) t137_11)
def t137_12 := b137_12
theorem u137_12 : vcK P t137_12 k e w = vcK P b137_12 k e w := rfl
abbrev b137_13 : X := (.seq (.reg [0, 3] (.c (.q 3 [] (.mv (.c (.int .i64 0)))) .nil)) t137_12)
def t137_13 := b137_13
theorem u137_13 : vcK P t137_13 k e w = vcK P b137_13 k e w := rfl
abbrev b137_14 : X := (.seq (.seq (.reg [0, 9] (.c (.q 6 [] (.mv (.t 0))) (.c (.q 7 [] (.len (.t 6))) (.c (.e (some 8) [] (.call false 149 [(.t 7)])) (.c (.q 9 [] (.not (.t 8))) .nil))))) t137_1) t137_13)
def t137_14 := b137_14
theorem u137_14 : vcK P t137_14 k e w = vcK P b137_14 k e w := rfl
abbrev b137_0 : X := (.seq (.reg [0] (.c (.q 2 [] (.mv (.c (.bool false)))) .nil)) t137_14)
def x_iGoodRow := b137_0
theorem u137_0 : vcK P x_iGoodRow k e w = vcK P b137_0 k e w := rfl
def r_iGoodRow : List XO := [(.mv (.t 2))]
theorem c_iGoodRow : convF Tryz.prog [56, 58, 59, 60, 61, 62, 72, 73, 77, 97, 98, 109, 110, 111, 112, 115, 128, 136] Tryz.f137 [([0], []), ([0, 9], []), ([2], []), ([0, 3], []), ([0, 3, 11, 12], []), ([3, 12], [0, 11]), ([0, 3, 11, 12, 13], []), ([0, 3, 4, 11, 12], []), ([0, 3, 5, 11, 12], []), ([0, 3, 5, 11, 12, 34], []), ([2], []), ([0, 3, 11, 12], []), ([0, 3, 11, 12], []), ([2], [])] = some (x_iGoodRow, r_iGoodRow) := by kernel_rfl
def us_iGoodRow :=  (aI (aI (aI @u137_0 (aI @u137_1 @u137_2)) (aI (aI @u137_3 @u137_4) (aI @u137_5 @u137_6))) (aI (aI (aI @u137_7 @u137_8) (aI @u137_9 @u137_10)) (aI (aI @u137_11 @u137_12) (aI @u137_13 @u137_14))))
abbrev b103_1 : X := (.cond (.t 8) (.seq (.reg [2] (.c (.q 2 [] (.mv (.c (.bool false)))) .nil)) .ret) .skip)
def t103_1 := b103_1
theorem u103_1 : vcK P t103_1 k e w = vcK P b103_1 k e w := rfl
abbrev b103_2 : X := (.cond (.t 12) .skip (.exit 0))
def t103_2 := b103_2
theorem u103_2 : vcK P t103_2 k e w = vcK P b103_2 k e w := rfl
abbrev b103_3 : X := (.cond (.t 28) (.seq (.reg [2] (.c (.q 2 [] (.mv (.c (.bool false)))) .nil)) .ret) .skip)
def t103_3 := b103_3
theorem u103_3 : vcK P t103_3 k e w = vcK P b103_3 k e w := rfl
abbrev b103_4 : X := (.cond (.t 31) .skip (.exit 2))
def t103_4 := b103_4
theorem u103_4 : vcK P t103_4 k e w = vcK P b103_4 k e w := rfl
abbrev b103_5 : X := (.cond (.t 40) (.seq (.reg [2] (.c (.q 2 [] (.mv (.c (.bool false)))) .nil)) .ret) .skip)
def t103_5 := b103_5
theorem u103_5 : vcK P t103_5 k e w = vcK P b103_5 k e w := rfl
abbrev b103_6 : X := (.reg [0, 3, 4] (.c (.q 32 [] (.mv (.t 4))) (.c (.q 33 [] (.bin .add (.t 32) (.c (.int .i64 1)))) (.c (.q 4 [] (.mv (.t 33))) .nil))))
def t103_6 := b103_6
theorem u103_6 : vcK P t103_6 k e w = vcK P b103_6 k e w := rfl
abbrev b103_7 : X := (.seq (.blk 3 (.seq (.drw [0, 3, 4, 40] (.c (.q 34 [] (.mv (.t 0))) (.c (.q 35 [] (.mv (.t 4))) (.c (.q 36 [] (.idx (.t 34) (.t 35))) (.c (.q 37 [] (.mv (.t 0))) (.c (.q 38 [] (.mv (.t 3))) (.c (.q 39 [] (.idx (.t 37) (.t 38))) (.c (.q 40 [] (.bin .eql (.t 36) (.t 39))) .nil)))))))) t103_5)) t103_6)
def t103_7 := b103_7
theorem u103_7 : vcK P t103_7 k e w = vcK P b103_7 k e w := rfl
abbrev b103_8 : X := (.seq (.seq (.reg [0, 3, 4, 31] (.c (.q 29 [] (.mv (.t 4))) (.c (.q 30 [] (.mv (.t 3))) (.c (.q 31 [] (.bin .lss (.t 29) (.t 30))) .nil)))) t103_4) t103_7)
def t103_8 := b103_8
theorem u103_8 : vcK P t103_8 k e w = vcK P b103_8 k e w := rfl
abbrev b103_9 : X := (.blk 2 (.loop [4] [0, 3] t103_8))
def t103_9 := b103_9
theorem u103_9 : vcK P t103_9 k e w = vcK P b103_9 k e w := rfl
abbrev b103_10 : X := (.seq (.reg [0, 3, 4] (.c (.q 4 [] (.mv (.c (.int .i64 0)))) .nil)) t103_9)
def t103_10 := b103_10
theorem u103_10 : vcK P t103_10 k e w = vcK P b103_10 k e w := rfl
abbrev b103_11 : X := (.reg [0, 3] (.c (.q 13 [] (.mv (.t 3))) (.c (.q 14 [] (.bin .add (.t 13) (.c (.int .i64 1)))) (.c (.q 3 [] (.mv (.t 14))) .nil))))
def t103_11 := b103_11
theorem u103_11 : vcK P t103_11 k e w = vcK P b103_11 k e w := rfl
abbrev b103_12 : X := (.seq (.blk 1 (.seq (.seq (.reg [0, 3, 28] (.c (.q 15 [] (.mv (.t 0))) (.c (.q 16 [] (.mv (.t 3))) (.c (.q 17 [] (.idx (.t 15) (.t 16))) (.c (.q 18 [] (.bin .lss (.t 17) (.c (.int .u8 49)))) (.c (.q 19 [] (.mv (.t 18))) (.c (.q 20 [(19, false)] (.mv (.t 0))) (.c (.q 21 [(19, false)] (.mv (.t 3))) (.c (.q 22 [(19, false)] (.idx (.t 20) (.t 21))) (.c (.q 23 [(19, false)] (.bin .sub (.t 22) (.c (.int .u8 48)))) (.c (.q 24 [(19, false)] (.cvi .i64 (.t 23))) (.c (.q 25 [(19, false)] (.mv (.t 0))) (.c (.q 26 [(19, false)] (.len (.t 25))) (.c (.q 27 [(19, false)] (.bin .gtr (.t 24) (.t 26))) (.c (.q 28 [] (.pick (.t 19) (.c (.bool true)) (.t 27))) .nil))))))))))))))) t103_3) t103_10)) t103_11)
def t103_12 := b103_12
theorem u103_12 : vcK P t103_12 k e w = vcK P b103_12 k e w := rfl
abbrev b103_13 : X := (.seq (.seq (.reg [0, 3, 12] (.c (.q 9 [] (.mv (.t 3))) (.c (.q 10 [] (.mv (.t 0))) (.c (.q 11 [] (.len (.t 10))) (.c (.q 12 [] (.bin .lss (.t 9) (.t 11))) .nil))))) t103_2) t103_12)
def t103_13 := b103_13
theorem u103_13 : vcK P t103_13 k e w = vcK P b103_13 k e w := rfl
abbrev b103_14 : X := (.blk 0 (.loop [3] [0] t103_13))
def t103_14 := b103_14
theorem u103_14 : vcK P t103_14 k e w = vcK P b103_14 k e w := rfl
abbrev b103_15 : X := (.seq (.reg [2] (.c (.q 2 [] (.mv (.c (.bool true)))) .nil)) .ret)
def t103_15 := b103_15
theorem u103_15 : vcK P t103_15 k e w = vcK P b103_15 k e w := rfl
abbrev b103_16 : X := (.seq (.seq (.reg [0, 3] (.c (.q 3 [] (.mv (.c (.int .i64 0)))) .nil)) t103_14) t103_15)
def t103_16 := b103_16
theorem u103_16 : vcK P t103_16 k e w = vcK P b103_16 k e w := rfl
abbrev b103_17 : X := (.seq (.seq (.reg [0, 8] (.c (.q 5 [] (.mv (.t 0))) (.c (.q 6 [] (.len (.t 5))) (.c (.e (some 7) [] (.call false 67 [(.t 6), (.c (.int .i64 3)), (.c (.int .i64 8))])) (.c (.q 8 [] (.not (.t 7))) .nil))))) t103_1) t103_16)
def t103_17 := b103_17
theorem u103_17 : vcK P t103_17 k e w = vcK P b103_17 k e w := rfl
abbrev b103_0 : X := (.seq (.reg [0] (.c (.q 2 [] (.mv (.c (.bool false)))) .nil)) t103_17)
def x_sl1Row := b103_0
theorem u103_0 : vcK P x_sl1Row k e w = vcK P b103_0 k e w := rfl
def r_sl1Row : List XO := [(.mv (.t 2))]
theorem c_sl1Row : convF Tryz.prog [56, 58, 59, 60, 61, 62, 72, 73, 77, 97, 98, 109, 110, 111, 112, 115, 128, 136] Tryz.f103 [([0], []), ([0, 8], []), ([2], []), ([0, 3], []), ([3], [0]), ([0, 3, 12], []), ([0, 3, 28], []), ([2], []), ([0, 3, 4], []), ([4], [0, 3]), ([0, 3, 4, 31], []), ([0, 3, 4, 40], []), ([2], []), ([0, 3, 4], []), ([0, 3], []), ([2], [])] = some (x_sl1Row, r_sl1Row) := by kernel_rfl
def us_sl1Row :=  (aI (aI (aI (aI @u103_0 @u103_1) (aI @u103_2 @u103_3)) (aI (aI @u103_4 @u103_5) (aI @u103_6 (aI @u103_7 @u103_8)))) (aI (aI (aI @u103_9 @u103_10) (aI @u103_11 @u103_12)) (aI (aI @u103_13 @u103_14) (aI @u103_15 (aI @u103_16 @u103_17)))))
end
theorem iwithin_ok (n lo hi : Int) (w : World) : Fn 75 [.int .i64 n, .int .i64 lo, .int .i64 hi] w (fun v _ => v = .bool (decide (lo ≤ n) && decide (n ≤ hi))) := by
  (refine callsV_of mix Tryz.func75 c_iwithin ?_; simp only [↓vsd, vsn, gW, qd, qv, ev, pick, argE, zipE, ne_eq, eq_self, forall_const, implies_true, if_true, if_false, reduceIte, reduceCtorEq, Nat.reduceEqDiff, Nat.reduceAdd, Nat.reduceLT, ↓us_iwithin, r_iwithin])
  exact Ext.refl _
theorem sl1In_ok (n lo hi : Int) (w : World) : Fn 67 [.int .i64 n, .int .i64 lo, .int .i64 hi] w (fun v _ => v = .bool (decide (lo ≤ n) && decide (n ≤ hi))) := by
  (refine callsV_of mix Tryz.func67 c_sl1In ?_; simp only [↓vsd, vsn, gW, qd, qv, ev, pick, argE, zipE, ne_eq, eq_self, forall_const, implies_true, if_true, if_false, reduceIte, reduceCtorEq, Nat.reduceEqDiff, Nat.reduceAdd, Nat.reduceLT, ↓us_sl1In, r_sl1In])
  exact Ext.refl _
theorem iisStage_ok (n : Int) (w : World) : Fn 149 [.int .i64 n] w (fun v _ => v = .bool (decide (3 ≤ n) && decide (n ≤ 8))) := by
  (refine callsV_of mix Tryz.func149 c_iisStage ?_; simp only [↓vsd, vsn, gW, qd, qv, ev, pick, argE, zipE, ne_eq, eq_self, forall_const, implies_true, if_true, if_false, reduceIte, reduceCtorEq, Nat.reduceEqDiff, Nat.reduceAdd, Nat.reduceLT, ↓us_iisStage, r_iisStage])
  exact Ext.refl _
theorem iGoodRow_ok (l : List UInt8) (w : World) : Fn 137 [S l] w (fun v _ => v = .bool (decide (IsRow l))) := by
  (refine callsV_of mix Tryz.func137 c_iGoodRow ?_; simp only [↓vsd, vsn, gW, qd, qv, ev, pick, argE, zipE, ne_eq, eq_self, forall_const, implies_true, if_true, if_false, reduceIte, reduceCtorEq, Nat.reduceEqDiff, Nat.reduceAdd, Nat.reduceLT, ↓us_iGoodRow, r_iGoodRow])
  refine m_call (iisStage_ok _ _) ?_
  rintro _ w1 hx rfl
  simp only [↓vsd, vsn, gW, qd, qv, ev, pick, argE, zipE, ne_eq, eq_self, forall_const, implies_true, if_true, if_false, reduceIte, reduceCtorEq, Nat.reduceEqDiff, Nat.reduceAdd, Nat.reduceLT, ↓us_iGoodRow, r_iGoodRow]
  refine ⟨fun h => ⟨hx, ?_⟩, fun h => ?_⟩
  · have : ¬ IsRow l := fun hr => by have := hr.1; omega
    simp [this]
  refine m_loop (fun m vs w' => ∃ k s : Nat, m = l.length - k ∧ k ≤ l.length ∧ s < 256 ∧ vs = [.int .i64 s, .int .i64 k] ∧ RowUp l k ∧ (∀ c < 8, s.testBit c = true ↔ ∃ j < k, (l.getD j 0).toNat = 49 + c) ∧ Ext w w') l.length ?_ ?_
  · exact ⟨0, 0, by omega, by omega, by omega, rfl, RowUp.zero l, by simp, hx⟩
  · rintro m vs w' ⟨k, s, rfl, hk, hs, rfl, hup, hbit, hx'⟩
    simp only [↓vsd, vsn, gW, qd, qv, ev, pick, argE, zipE, ne_eq, eq_self, forall_const, implies_true, if_true, if_false, reduceIte, reduceCtorEq, Nat.reduceEqDiff, Nat.reduceAdd, Nat.reduceLT, ↓us_iGoodRow, r_iGoodRow]
    have hb := (l.getD k 0).toNat_lt
    refine ⟨fun hlt => ⟨⟨by omega, hlt⟩, inR_i64 (by omega), fun h => h.1, fun hbad => ⟨hx', ?_⟩, ?_⟩, fun hge => ⟨hx', ?_⟩⟩
    · have hn : ¬ IsRow l := fun hr => by
        obtain ⟨h1, h2, h3⟩ := hr.2 k (by omega)
        obtain ⟨c, hc⟩ : ∃ c : Nat, (l.getD k 0).toNat = 49 + c := ⟨(l.getD k 0).toNat - 49, by omega⟩
        rw [show ((l.getD k 0).toNat : Int) - 49 = (c : Nat) by omega] at hbad
        rcases hbad with hbad | hbad
        · omega
        · rw [Int.toNat_natCast, bit_and ⟨s, hs⟩ ⟨c, by omega⟩, hbit c (by omega)] at hbad
          obtain ⟨j, hj, he⟩ := hbad
          exact h3 j hj (UInt8.toNat_inj.1 (by omega))
      simp [hn]
    · rintro ⟨⟨h1, h2⟩, h3⟩
      obtain ⟨c, hc⟩ : ∃ c : Nat, (l.getD k 0).toNat = 49 + c := ⟨(l.getD k 0).toNat - 49, by omega⟩
      rw [show ((l.getD k 0).toNat : Int) - 49 = (c : Nat) by omega] at h3 ⊢
      rw [Int.toNat_natCast] at h3 ⊢
      rw [bit_and ⟨s, hs⟩ ⟨c, by omega⟩, hbit c (by omega)] at h3
      refine ⟨by omega, inR_i64 (by omega), _, Nat.lt_of_lt_of_le ?_ (Nat.le_refl _), k + 1, s ||| 2 ^ c, rfl, by omega, bit_lt ⟨s, hs⟩ ⟨c, by omega⟩, ⟨?_, by simp⟩, hup.succ (by omega) (by omega) (fun j hj he => h3 ⟨j, hj, by rw [he]; exact hc⟩), fun d hd => ?_, hx'⟩
      · omega
      · rw [bit_or ⟨s, hs⟩ ⟨c, by omega⟩]
      · rw [bit_test ⟨s, hs⟩ ⟨c, by omega⟩ ⟨d, hd⟩, hbit d hd]
        constructor
        · rintro (⟨j, hj, he⟩ | he)
          · exact ⟨j, by omega, he⟩
          · exact ⟨k, by omega, by rw [hc]; simp only at he; omega⟩
        · rintro ⟨j, hj, he⟩
          by_cases hjk : j = k
          · subst hjk; right; simp only; omega
          · exact Or.inl ⟨j, by omega, he⟩
    · have : IsRow l := ⟨by omega, by rw [show l.length = k by omega]; exact hup⟩
      simp [this]
theorem sl1Row_ok (l : List UInt8) (w : World) : Fn 103 [S l] w (fun v _ => v = .bool (decide (IsRow l))) := by
  (refine callsV_of mix Tryz.func103 c_sl1Row ?_; simp only [↓vsd, vsn, gW, qd, qv, ev, pick, argE, zipE, ne_eq, eq_self, forall_const, implies_true, if_true, if_false, reduceIte, reduceCtorEq, Nat.reduceEqDiff, Nat.reduceAdd, Nat.reduceLT, ↓us_sl1Row, r_sl1Row])
  refine m_call (sl1In_ok _ _ _ _) ?_
  rintro _ w1 hx rfl
  simp only [↓vsd, vsn, gW, qd, qv, ev, pick, argE, zipE, ne_eq, eq_self, forall_const, implies_true, if_true, if_false, reduceIte, reduceCtorEq, Nat.reduceEqDiff, Nat.reduceAdd, Nat.reduceLT, ↓us_sl1Row, r_sl1Row]
  refine ⟨fun h => ⟨hx, ?_⟩, fun h => ?_⟩
  · have : ¬ IsRow l := fun hr => by have := hr.1; omega
    simp [this]
  refine m_loop (fun m vs w' => ∃ k : Nat, m = l.length - k ∧ k ≤ l.length ∧ vs = [.int .i64 k] ∧ RowUp l k ∧ Ext w w') l.length ?_ ?_
  · exact ⟨0, by omega, by omega, rfl, RowUp.zero l, hx⟩
  · rintro m vs w' ⟨k, rfl, hk, rfl, hup, hx'⟩
    simp only [↓vsd, vsn, gW, qd, qv, ev, pick, argE, zipE, ne_eq, eq_self, forall_const, implies_true, if_true, if_false, reduceIte, reduceCtorEq, Nat.reduceEqDiff, Nat.reduceAdd, Nat.reduceLT, ↓us_sl1Row, r_sl1Row]
    have hb := (l.getD k 0).toNat_lt
    ((repeat' (first | (with_reducible refine And.intro ?_ ?_) | intro _)) <;> (try first | omega | ((with_reducible refine inR_i64 ?_) <;> omega) | ((with_reducible refine inR_u8 ?_) <;> omega) | with_reducible assumption | exact Ext.refl _))
    · have : ¬ IsRow l := fun hr => by
        obtain ⟨h1, h2, h3⟩ := hr.2 k (by omega)
        omega
      simp [this]
    · refine m_loop (fun m vs w' => ∃ j : Nat, m = k - j ∧ j ≤ k ∧ vs = [.int .i64 j] ∧ (∀ i < j, l.getD i 0 ≠ l.getD k 0) ∧ Ext w w') k ?_ ?_
      · exact ⟨0, by omega, by omega, rfl, by simp, hx'⟩
      · rintro m vs w2 ⟨j, rfl, hj, rfl, hne, hx2⟩
        simp only [↓vsd, vsn, gW, qd, qv, ev, pick, argE, zipE, ne_eq, eq_self, forall_const, implies_true, if_true, if_false, reduceIte, reduceCtorEq, Nat.reduceEqDiff, Nat.reduceAdd, Nat.reduceLT, ↓us_sl1Row, r_sl1Row]
        have hc := (l.getD j 0).toNat_lt
        ((repeat' (first | (with_reducible refine And.intro ?_ ?_) | intro _)) <;> (try first | omega | ((with_reducible refine inR_i64 ?_) <;> omega) | ((with_reducible refine inR_u8 ?_) <;> omega) | with_reducible assumption | exact Ext.refl _))
        · rename_i he
          have : ¬ IsRow l := fun hr => by
            obtain ⟨h1, h2, h3⟩ := hr.2 k (by omega)
            exact h3 j (by omega) (UInt8.toNat_inj.1 (by omega))
          simp [this]
        · rename_i he
          exact ⟨_, Nat.lt_of_lt_of_le (show k - (j + 1) < k - j by omega) (Nat.le_refl _), j + 1, rfl, by omega, by simp, fun i hi => by
            by_cases hij : i = j
            · subst hij; intro h; rw [h] at he; exact he rfl
            · exact hne i (by omega), hx2⟩
        · exact ⟨_, Nat.lt_of_lt_of_le (show l.length - (k + 1) < l.length - k by omega) (Nat.le_refl _), k + 1, rfl, by omega, by simp, hup.succ (by omega) (by omega) (fun i hi => hne i (by omega)), hx2⟩
    · have : IsRow l := ⟨by omega, by rw [show l.length = k by omega]; exact hup⟩
      simp [this]
end Go.Proofs.YthopbkemkfjebaaGreat
