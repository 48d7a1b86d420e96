/-
  Contracts of the smallest functions: bounds, rows.
  Conditions: none.
-/
import Derived.Test.YtpnopboffalfnaaVf
import Derived.Test.YtpnopboffalfnaaPa
set_option linter.unusedSimpArgs false
set_option linter.unusedVariables false
set_option linter.defProp false
namespace Go.Proofs.Ytpnopboffalfnaa
open Go Go.RowKit
section
variable (P : Program) (k : KT) (e : Env) (w : World)
abbrev b266_1 : X := (.seq (.reg [6] (.c (.q 7 [] (.mv (.t 1))) (.c (.q 8 [] (.mv (.t 0))) (.c (.q 9 [] (.bin .leq (.t 7) (.t 8))) (.c (.q 10 [] (.mv (.t 9))) (.c (.q 11 [(10, true)] (.mv (.t 0))) (.c (.q 12 [(10, true)] (.mv (.t 2))) (.c (.q 13 [(10, true)] (.bin .leq (.t 11) (.t 12))) (.c (.q 14 [] (.pick (.t 10) (.t 13) (.c (.bool false)))) (.c (.q 6 [] (.mv (.t 14))) .nil)))))))))) .ret)
def t266_1 := b266_1
theorem u266_1 : vcK P t266_1 k e w = vcK P b266_1 k e w := rfl
abbrev b266_0 : X := (.seq (.reg [0, 1, 2] (.c (.q 6 [] (.mv (.c (.bool false)))) .nil)) t266_1)
def x_iwithin := b266_0
theorem u266_0 : vcK P x_iwithin k e w = vcK P b266_0 k e w := rfl
def r_iwithin : List XO := [(.mv (.t 6))]
theorem c_iwithin : convF Try.prog [169, 170, 207, 208, 210, 227, 232, 233, 255, 259, 268, 269, 270, 280, 281, 296, 299, 306, 307, 309] Try.f266 [([0, 1, 2], []), ([6], [])] = some (x_iwithin, r_iwithin) := by kernel_rfl
def us_iwithin := aI @u266_0 @u266_1
abbrev b173_1 : X := (.seq (.reg [6] (.c (.q 7 [] (.mv (.t 0))) (.c (.q 8 [] (.mv (.t 1))) (.c (.q 9 [] (.bin .geq (.t 7) (.t 8))) (.c (.q 10 [] (.mv (.t 9))) (.c (.q 11 [(10, true)] (.mv (.t 0))) (.c (.q 12 [(10, true)] (.mv (.t 2))) (.c (.q 13 [(10, true)] (.bin .leq (.t 11) (.t 12))) (.c (.q 14 [] (.pick (.t 10) (.t 13) (.c (.bool false)))) (.c (.q 6 [] (.mv (.t 14))) .nil)))))))))) .ret)
def t173_1 := b173_1
theorem u173_1 : vcK P t173_1 k e w = vcK P b173_1 k e w := rfl
abbrev b173_0 : X := (.seq (.reg [0, 1, 2] (.c (.q 6 [] (.mv (.c (.bool false)))) .nil)) t173_1)
def x_sl1In := b173_0
theorem u173_0 : vcK P x_sl1In k e w = vcK P b173_0 k e w := rfl
def r_sl1In : List XO := [(.mv (.t 6))]
theorem c_sl1In : convF Try.prog [169, 170, 207, 208, 210, 227, 232, 233, 255, 259, 268, 269, 270, 280, 281, 296, 299, 306, 307, 309] Try.f173 [([0, 1, 2], []), ([6], [])] = some (x_sl1In, r_sl1In) := by kernel_rfl
def us_sl1In := aI @u173_0 @u173_1
abbrev b177_1 : X := (.seq (.reg [2] (.c (.q 3 [] (.mv (.t 0))) (.c (.q 4 [] (.bin .leq (.c (.int .i64 3)) (.t 3))) (.c (.q 5 [] (.mv (.t 4))) (.c (.q 6 [(5, true)] (.mv (.t 0))) (.c (.q 7 [(5, true)] (.bin .leq (.t 6) (.c (.int .i64 8)))) (.c (.q 8 [] (.pick (.t 5) (.t 7) (.c (.bool false)))) (.c (.q 2 [] (.mv (.t 8))) .nil)))))))) .ret)
def t177_1 := b177_1
theorem u177_1 : vcK P t177_1 k e w = vcK P b177_1 k e w := rfl
abbrev b177_0 : X := (.seq (.reg [0] (.c (.q 2 [] (.mv (.c (.bool false)))) .nil)) t177_1)
def x_iisStage := b177_0
theorem u177_0 : vcK P x_iisStage k e w = vcK P b177_0 k e w := rfl
def r_iisStage : List XO := [(.mv (.t 2))]
theorem c_iisStage : convF Try.prog [169, 170, 207, 208, 210, 227, 232, 233, 255, 259, 268, 269, 270, 280, 281, 296, 299, 306, 307, 309] Try.f177 [([0], []), ([2], [])] = some (x_iisStage, r_iisStage) := by kernel_rfl
def us_iisStage := aI @u177_0 @u177_1
abbrev b181_1 : X := (.cond (.t 9) (.seq (.reg [2] (.c (.q 2 [] (.mv (.c (.bool false)))) .nil)) .ret) .skip)
def t181_1 := b181_1
theorem u181_1 : vcK P t181_1 k e w = vcK P b181_1 k e w := rfl
abbrev b181_2 : X := (.cond (.t 34) (.seq (.reg [2] (.c (.q 2 [] (.mv (.c (.bool false)))) .nil)) .ret) .skip)
def t181_2 := b181_2
theorem u181_2 : vcK P t181_2 k e w = vcK P b181_2 k e w := rfl
abbrev b181_3 : X := (.reg [0, 3, 11, 12] (.c (.q 35 [] (.mv (.t 3))) (.c (.q 36 [] (.mv (.t 5))) (.c (.q 37 [] (.bin .shl (.c (.int .i64 1)) (.t 36))) (.c (.q 38 [] (.bin .or (.t 35) (.t 37))) (.c (.q 3 [] (.mv (.t 38))) .nil))))))
def t181_3 := b181_3
theorem u181_3 : vcK P t181_3 k e w = vcK P b181_3 k e w := rfl
abbrev b181_4 : X := (.seq (.seq (.reg [0, 3, 5, 11, 12, 34] (.c (.q 20 [] (.mv (.t 5))) (.c (.q 21 [] (.bin .lss (.t 20) (.c (.int .i64 0)))) (.c (.q 22 [] (.mv (.t 21))) (.c (.q 23 [(22, false)] (.mv (.t 5))) (.c (.q 24 [(22, false)] (.mv (.t 0))) (.c (.q 25 [(22, false)] (.len (.t 24))) (.c (.q 26 [(22, false)] (.bin .geq (.t 23) (.t 25))) (.c (.q 27 [] (.pick (.t 22) (.c (.bool true)) (.t 26))) (.c (.q 28 [] (.mv (.t 27))) (.c (.q 29 [(28, false)] (.mv (.t 3))) (.c (.q 30 [(28, false)] (.mv (.t 5))) (.c (.q 31 [(28, false)] (.bin .shr (.t 29) (.t 30))) (.c (.q 32 [(28, false)] (.bin .and (.t 31) (.c (.int .i64 1)))) (.c (.q 33 [(28, false)] (.bin .eql (.t 32) (.c (.int .i64 1)))) (.c (.q 34 [] (.pick (.t 28) (.c (.bool true)) (.t 33))) .nil)))))))))))))))) t181_2) t181_3)
def t181_4 := b181_4
theorem u181_4 : vcK P t181_4 k e w = vcK P b181_4 k e w := rfl
abbrev b181_5 : X := (.seq (.reg [0, 3, 5, 11, 12] (.c (.q 15 [] (.mv (.t 0))) (.c (.q 16 [] (.mv (.t 4))) (.c (.q 17 [] (.idx (.t 15) (.t 16))) (.c (.q 18 [] (.cvi .i64 (.t 17))) (.c (.q 19 [] (.bin .sub (.t 18) (.c (.int .i64 49)))) (.c (.q 5 [] (.mv (.t 19))) .nil))))))) t181_4)
def t181_5 := b181_5
theorem u181_5 : vcK P t181_5 k e w = vcK P b181_5 k e w := rfl
abbrev b181_6 : X := (.reg [0, 3, 11, 12] (.c (.q 39 [] (.bin .add (.t 12) (.c (.int .i64 1)))) (.c (.q 12 [] (.mv (.t 39))) .nil)))
def t181_6 := b181_6
theorem u181_6 : vcK P t181_6 k e w = vcK P b181_6 k e w := rfl
abbrev b181_7 : X := (.seq (.blk 1 (.seq (.reg [0, 3, 4, 11, 12] (.c (.q 14 [] (.mv (.t 12))) (.c (.q 4 [] (.mv (.t 14))) .nil))) t181_5)) t181_6)
def t181_7 := b181_7
theorem u181_7 : vcK P t181_7 k e w = vcK P b181_7 k e w := rfl
abbrev b181_8 : X := (.seq (.cond (.t 13) .skip (.exit 0)) t181_7)
def t181_8 := b181_8
theorem u181_8 : vcK P t181_8 k e w = vcK P b181_8 k e w := rfl
abbrev b181_9 : X := (.seq (.reg [0, 3, 11, 12, 13] (.c (.q 13 [] (.bin .lss (.t 12) (.t 11))) .nil)) t181_8)
def t181_9 := b181_9
theorem u181_9 : vcK P t181_9 k e w = vcK P b181_9 k e w := rfl
abbrev b181_10 : X := (.blk 0 (.loop [3, 12] [0, 11] t181_9))
def t181_10 := b181_10
theorem u181_10 : vcK P t181_10 k e w = vcK P b181_10 k e w := rfl
abbrev b181_11 : X := (.seq (.reg [2] (.c (.q 2 [] (.mv (.c (.bool true)))) .nil)) .ret)
def t181_11 := b181_11
theorem u181_11 : vcK P t181_11 k e w = vcK P b181_11 k e w := rfl
abbrev b181_12 : X := (.seq (.seq (.reg [0, 3, 11, 12] (.c (.q 10 [] (.mv (.t 0))) (.c (.q 11 [] (.len (.t 10))) (.c (.q 12 [] (.mv (.c (.int .i64 0)))) .nil)))) t181_10) t181_11)
def t181_12 := b181_12
theorem u181_12 : vcK P t181_12 k e w = vcK P b181_12 k e w := rfl
abbrev b181_13 : X := (.seq (.reg [0, 3] (.c (.q 3 [] (.mv (.c (.int .i64 0)))) .nil)) t181_12)
def t181_13 := b181_13
theorem u181_13 : vcK P t181_13 k e w = vcK P b181_13 k e w := rfl
abbrev b181_14 : X := (.seq (.seq (.reg [0, 9] (.c (.q 6 [] (.mv (.t 0))) (.c (.q 7 [] (.len (.t 6))) (.c (.e (some 8) [] (.call false 177 [(.t 7)])) (.c (.q 9 [] (.not (.t 8))) .nil))))) t181_1) t181_13)
def t181_14 := b181_14
theorem u181_14 : vcK P t181_14 k e w = vcK P b181_14 k e w := rfl
abbrev b181_0 : X := (.seq (.reg [0] (.c (.q 2 [] (.mv (.c (.bool false)))) .nil)) t181_14)
def x_iGoodRow := b181_0
theorem u181_0 : vcK P x_iGoodRow k e w = vcK P b181_0 k e w := rfl
def r_iGoodRow : List XO := [(.mv (.t 2))]
theorem c_iGoodRow : convF Try.prog [169, 170, 207, 208, 210, 227, 232, 233, 255, 259, 268, 269, 270, 280, 281, 296, 299, 306, 307, 309] Try.f181 [([0], []), ([0, 9], []), ([2], []), ([0, 3], []), ([0, 3, 11, 12], []), ([3, 12], [0, 11]), ([0, 3, 11, 12, 13], []), ([0, 3, 4, 11, 12], []), ([0, 3, 5, 11, 12], []), ([0, 3, 5, 11, 12, 34], []), ([2], []), ([0, 3, 11, 12], []), ([0, 3, 11, 12], []), ([2], [])] = some (x_iGoodRow, r_iGoodRow) := by kernel_rfl
def us_iGoodRow := aI @u181_0 (aI @u181_1 (aI @u181_2 (aI @u181_3 (aI @u181_4 (aI @u181_5 (aI @u181_6 (aI @u181_7 (aI @u181_8 (aI @u181_9 (aI @u181_10 (aI @u181_11 (aI @u181_12 (aI @u181_13 @u181_14)))))))))))))
abbrev b223_1 : X := (.cond (.t 8) (.seq (.reg [2] (.c (.q 2 [] (.mv (.c (.bool false)))) .nil)) .ret) .skip)
def t223_1 := b223_1
theorem u223_1 : vcK P t223_1 k e w = vcK P b223_1 k e w := rfl
abbrev b223_2 : X := (.cond (.t 12) .skip (.exit 0))
def t223_2 := b223_2
theorem u223_2 : vcK P t223_2 k e w = vcK P b223_2 k e w := rfl
abbrev b223_3 : X := (.cond (.t 28) (.seq (.reg [2] (.c (.q 2 [] (.mv (.c (.bool false)))) .nil)) .ret) .skip)
def t223_3 := b223_3
theorem u223_3 : vcK P t223_3 k e w = vcK P b223_3 k e w := rfl
abbrev b223_4 : X := (.cond (.t 31) .skip (.exit 2))
def t223_4 := b223_4
theorem u223_4 : vcK P t223_4 k e w = vcK P b223_4 k e w := rfl
abbrev b223_5 : X := (.cond (.t 40) (.seq (.reg [2] (.c (.q 2 [] (.mv (.c (.bool false)))) .nil)) .ret) .skip)
def t223_5 := b223_5
theorem u223_5 : vcK P t223_5 k e w = vcK P b223_5 k e w := rfl
abbrev b223_6 : X := (.reg [0, 3, 4] (.c (.q 32 [] (.mv (.t 4))) (.c (.q 33 [] (.bin .add (.t 32) (.c (.int .i64 1)))) (.c (.q 4 [] (.mv (.t 33))) .nil))))
def t223_6 := b223_6
theorem u223_6 : vcK P t223_6 k e w = vcK P b223_6 k e w := rfl
abbrev b223_7 : X := (.seq (.blk 3 (.seq (.drw [0, 3, 4, 40] (.c (.q 34 [] (.mv (.t 0))) (.c (.q 35 [] (.mv (.t 4))) (.c (.q 36 [] (.idx (.t 34) (.t 35))) (.c (.q 37 [] (.mv (.t 0))) (.c (.q 38 [] (.mv (.t 3))) (.c (.q 39 [] (.idx (.t 37) (.t 38))) (.c (.q 40 [] (.bin .eql (.t 36) (.t 39))) .nil)))))))) t223_5)) t223_6)
def t223_7 := b223_7
theorem u223_7 : vcK P t223_7 k e w = vcK P b223_7 k e w := rfl
abbrev b223_8 : X := (.seq (.seq (.reg [0, 3, 4, 31] (.c (.q 29 [] (.mv (.t 4))) (.c (.q 30 [] (.mv (.t 3))) (.c (.q 31 [] (.bin .lss (.t 29) (.t 30))) .nil)))) t223_4) t223_7)
def t223_8 := b223_8
theorem u223_8 : vcK P t223_8 k e w = vcK P b223_8 k e w := rfl
abbrev b223_9 : X := (.blk 2 (.loop [4] [0, 3] t223_8))
def t223_9 := b223_9
theorem u223_9 : vcK P t223_9 k e w = vcK P b223_9 k e w := rfl
abbrev b223_10 : X := (.seq (.reg [0, 3, 4] (.c (.q 4 [] (.mv (.c (.int .i64 0)))) .nil)) t223_9)
def t223_10 := b223_10
theorem u223_10 : vcK P t223_10 k e w = vcK P b223_10 k e w := rfl
abbrev b223_11 : X := (.reg [0, 3] (.c (.q 13 [] (.mv (.t 3))) (.c (.q 14 [] (.bin .add (.t 13) (.c (.int .i64 1)))) (.c (.q 3 [] (.mv (.t 14))) .nil))))
def t223_11 := b223_11
theorem u223_11 : vcK P t223_11 k e w = vcK P b223_11 k e w := rfl
abbrev b223_12 : X := (.seq (.blk 1 (.seq (.seq (.reg [0, 3, 28] (.c (.q 15 [] (.mv (.t 0))) (.c (.q 16 [] (.mv (.t 3))) (.c (.q 17 [] (.idx (.t 15) (.t 16))) (.c (.q 18 [] (.bin .lss (.t 17) (.c (.int .u8 49)))) (.c (.q 19 [] (.mv (.t 18))) (.c (.q 20 [(19, false)] (.mv (.t 0))) (.c (.q 21 [(19, false)] (.mv (.t 3))) (.c (.q 22 [(19, false)] (.idx (.t 20) (.t 21))) (.c (.q 23 [(19, false)] (.bin .sub (.t 22) (.c (.int .u8 48)))) (.c (.q 24 [(19, false)] (.cvi .i64 (.t 23))) (.c (.q 25 [(19, false)] (.mv (.t 0))) (.c (.q 26 [(19, false)] (.len (.t 25))) (.c (.q 27 [(19, false)] (.bin .gtr (.t 24) (.t 26))) (.c (.q 28 [] (.pick (.t 19) (.c (.bool true)) (.t 27))) .nil))))))))))))))) t223_3) t223_10)) t223_11)
def t223_12 := b223_12
theorem u223_12 : vcK P t223_12 k e w = vcK P b223_12 k e w := rfl
abbrev b223_13 : X := (.seq (.seq (.reg [0, 3, 12] (.c (.q 9 [] (.mv (.t 3))) (.c (.q 10 [] (.mv (.t 0))) (.c (.q 11 [] (.len (.t 10))) (.c (.q 12 [] (.bin .lss (.t 9) (.t 11))) .nil))))) t223_2) t223_12)
def t223_13 := b223_13
theorem u223_13 : vcK P t223_13 k e w = vcK P b223_13 k e w := rfl
abbrev b223_14 : X := (.blk 0 (.loop [3] [0] t223_13))
def t223_14 := b223_14
theorem u223_14 : vcK P t223_14 k e w = vcK P b223_14 k e w := rfl
abbrev b223_15 : X := (.seq (.reg [2] (.c (.q 2 [] (.mv (.c (.bool true)))) .nil)) .ret)
def t223_15 := b223_15
theorem u223_15 : vcK P t223_15 k e w = vcK P b223_15 k e w := rfl
abbrev b223_16 : X := (.seq (.seq (.reg [0, 3] (.c (.q 3 [] (.mv (.c (.int .i64 0)))) .nil)) t223_14) t223_15)
def t223_16 := b223_16
theorem u223_16 : vcK P t223_16 k e w = vcK P b223_16 k e w := rfl
abbrev b223_17 : X := (.seq (.seq (.reg [0, 8] (.c (.q 5 [] (.mv (.t 0))) (.c (.q 6 [] (.len (.t 5))) (.c (.e (some 7) [] (.call false 173 [(.t 6), (.c (.int .i64 3)), (.c (.int .i64 8))])) (.c (.q 8 [] (.not (.t 7))) .nil))))) t223_1) t223_16)
def t223_17 := b223_17
theorem u223_17 : vcK P t223_17 k e w = vcK P b223_17 k e w := rfl
abbrev b223_0 : X := (.seq (.reg [0] (.c (.q 2 [] (.mv (.c (.bool false)))) .nil)) t223_17)
def x_sl1Row := b223_0
theorem u223_0 : vcK P x_sl1Row k e w = vcK P b223_0 k e w := rfl
def r_sl1Row : List XO := [(.mv (.t 2))]
theorem c_sl1Row : convF Try.prog [169, 170, 207, 208, 210, 227, 232, 233, 255, 259, 268, 269, 270, 280, 281, 296, 299, 306, 307, 309] Try.f223 [([0], []), ([0, 8], []), ([2], []), ([0, 3], []), ([3], [0]), ([0, 3, 12], []), ([0, 3, 28], []), ([2], []), ([0, 3, 4], []), ([4], [0, 3]), ([0, 3, 4, 31], []), ([0, 3, 4, 40], []), ([2], []), ([0, 3, 4], []), ([0, 3], []), ([2], [])] = some (x_sl1Row, r_sl1Row) := by kernel_rfl
def us_sl1Row := aI @u223_0 (aI @u223_1 (aI @u223_2 (aI @u223_3 (aI @u223_4 (aI @u223_5 (aI @u223_6 (aI @u223_7 (aI @u223_8 (aI @u223_9 (aI @u223_10 (aI @u223_11 (aI @u223_12 (aI @u223_13 (aI @u223_14 (aI @u223_15 (aI @u223_16 @u223_17))))))))))))))))
end

theorem iwithin_ok (n lo hi : Int) (w : World) : Fn 266 [.int .i64 n, .int .i64 lo, .int .i64 hi] w (fun v _ => v = .bool (decide (lo ≤ n) && decide (n ≤ hi))) := by
  (refine callsV_of mix Try.func266 c_iwithin ?_; simp only [↓vsd, vsn, gW, qd, qv, ev, pick, argE, zipE, ne_eq, eq_self, forall_const, implies_true, if_true, if_false, reduceIte, reduceCtorEq, Nat.reduceEqDiff, Nat.reduceAdd, Nat.reduceLT, ↓us_iwithin, r_iwithin])
  exact Ext.refl _
theorem sl1In_ok (n lo hi : Int) (w : World) : Fn 173 [.int .i64 n, .int .i64 lo, .int .i64 hi] w (fun v _ => v = .bool (decide (lo ≤ n) && decide (n ≤ hi))) := by
  (refine callsV_of mix Try.func173 c_sl1In ?_; simp only [↓vsd, vsn, gW, qd, qv, ev, pick, argE, zipE, ne_eq, eq_self, forall_const, implies_true, if_true, if_false, reduceIte, reduceCtorEq, Nat.reduceEqDiff, Nat.reduceAdd, Nat.reduceLT, ↓us_sl1In, r_sl1In])
  exact Ext.refl _
theorem iisStage_ok (n : Int) (w : World) : Fn 177 [.int .i64 n] w (fun v _ => v = .bool (decide (3 ≤ n) && decide (n ≤ 8))) := by
  (refine callsV_of mix Try.func177 c_iisStage ?_; simp only [↓vsd, vsn, gW, qd, qv, ev, pick, argE, zipE, ne_eq, eq_self, forall_const, implies_true, if_true, if_false, reduceIte, reduceCtorEq, Nat.reduceEqDiff, Nat.reduceAdd, Nat.reduceLT, ↓us_iisStage, r_iisStage])
  exact Ext.refl _
theorem iGoodRow_ok (l : List UInt8) (w : World) : Fn 181 [S l] w (fun v _ => v = .bool (decide (IsRow l))) := by
  (refine callsV_of mix Try.func181 c_iGoodRow ?_; simp only [↓vsd, vsn, gW, qd, qv, ev, pick, argE, zipE, ne_eq, eq_self, forall_const, implies_true, if_true, if_false, reduceIte, reduceCtorEq, Nat.reduceEqDiff, Nat.reduceAdd, Nat.reduceLT, ↓us_iGoodRow, r_iGoodRow])
  refine m_call (iisStage_ok _ _) ?_
  rintro _ w1 hx rfl
  simp only [↓vsd, vsn, gW, qd, qv, ev, pick, argE, zipE, ne_eq, eq_self, forall_const, implies_true, if_true, if_false, reduceIte, reduceCtorEq, Nat.reduceEqDiff, Nat.reduceAdd, Nat.reduceLT, ↓us_iGoodRow, r_iGoodRow]
  refine ⟨fun h => ⟨hx, ?_⟩, fun h => ?_⟩
  · have : ¬ IsRow l := fun hr => by have := hr.1; omega
    simp [this]
  refine m_loop (fun m vs w' => ∃ k s : Nat, m = l.length - k ∧ k ≤ l.length ∧ s < 256 ∧ vs = [.int .i64 s, .int .i64 k] ∧ RowUp l k ∧ (∀ c < 8, s.testBit c = true ↔ ∃ j < k, (l.getD j 0).toNat = 49 + c) ∧ Ext w w') l.length ?_ ?_
  · exact ⟨0, 0, by omega, by omega, by omega, rfl, RowUp.zero l, by simp, hx⟩
  · rintro m vs w' ⟨k, s, rfl, hk, hs, rfl, hup, hbit, hx'⟩
    simp only [↓vsd, vsn, gW, qd, qv, ev, pick, argE, zipE, ne_eq, eq_self, forall_const, implies_true, if_true, if_false, reduceIte, reduceCtorEq, Nat.reduceEqDiff, Nat.reduceAdd, Nat.reduceLT, ↓us_iGoodRow, r_iGoodRow]
    have hb := (l.getD k 0).toNat_lt
    refine ⟨fun hlt => ⟨⟨by omega, hlt⟩, inR_i64 (by omega), fun h => h.1, fun hbad => ⟨hx', ?_⟩, ?_⟩, fun hge => ⟨hx', ?_⟩⟩
    · have hn : ¬ IsRow l := fun hr => by
        obtain ⟨h1, h2, h3⟩ := hr.2 k (by omega)
        obtain ⟨c, hc⟩ : ∃ c : Nat, (l.getD k 0).toNat = 49 + c := ⟨(l.getD k 0).toNat - 49, by omega⟩
        rw [show ((l.getD k 0).toNat : Int) - 49 = (c : Nat) by omega] at hbad
        rcases hbad with hbad | hbad
        · omega
        · rw [Int.toNat_natCast, bit_and ⟨s, hs⟩ ⟨c, by omega⟩, hbit c (by omega)] at hbad
          obtain ⟨j, hj, he⟩ := hbad
          exact h3 j hj (UInt8.toNat_inj.1 (by omega))
      simp [hn]
    · rintro ⟨⟨h1, h2⟩, h3⟩
      obtain ⟨c, hc⟩ : ∃ c : Nat, (l.getD k 0).toNat = 49 + c := ⟨(l.getD k 0).toNat - 49, by omega⟩
      rw [show ((l.getD k 0).toNat : Int) - 49 = (c : Nat) by omega] at h3 ⊢
      rw [Int.toNat_natCast] at h3 ⊢
      rw [bit_and ⟨s, hs⟩ ⟨c, by omega⟩, hbit c (by omega)] at h3
      refine ⟨by omega, inR_i64 (by omega), _, Nat.lt_of_lt_of_le ?_ (Nat.le_refl _), k + 1, s ||| 2 ^ c, rfl, by omega, bit_lt ⟨s, hs⟩ ⟨c, by omega⟩, ⟨?_, by simp⟩, hup.succ (by omega) (by omega) (fun j hj he => h3 ⟨j, hj, by rw [he]; exact hc⟩), fun d hd => ?_, hx'⟩
      · omega
      · rw [bit_or ⟨s, hs⟩ ⟨c, by omega⟩]
      · rw [bit_test ⟨s, hs⟩ ⟨c, by omega⟩ ⟨d, hd⟩, hbit d hd]
        constructor
        · rintro (⟨j, hj, he⟩ | he)
          · exact ⟨j, by omega, he⟩
          · exact ⟨k, by omega, by rw [hc]; simp only at he; omega⟩
        · rintro ⟨j, hj, he⟩
          by_cases hjk : j = k
          · subst hjk; right; simp only; omega
          · exact Or.inl ⟨j, by omega, he⟩
    · have : IsRow l := ⟨by omega, by rw [show l.length = k by omega]; exact hup⟩
      simp [this]
theorem sl1Row_ok (l : List UInt8) (w : World) : Fn 223 [S l] w (fun v _ => v = .bool (decide (IsRow l))) := by
  (refine callsV_of mix Try.func223 c_sl1Row ?_; simp only [↓vsd, vsn, gW, qd, qv, ev, pick, argE, zipE, ne_eq, eq_self, forall_const, implies_true, if_true, if_false, reduceIte, reduceCtorEq, Nat.reduceEqDiff, Nat.reduceAdd, Nat.reduceLT, ↓us_sl1Row, r_sl1Row])
  refine m_call (sl1In_ok _ _ _ _) ?_
  rintro _ w1 hx rfl
  simp only [↓vsd, vsn, gW, qd, qv, ev, pick, argE, zipE, ne_eq, eq_self, forall_const, implies_true, if_true, if_false, reduceIte, reduceCtorEq, Nat.reduceEqDiff, Nat.reduceAdd, Nat.reduceLT, ↓us_sl1Row, r_sl1Row]
  refine ⟨fun h => ⟨hx, ?_⟩, fun h => ?_⟩
  · have : ¬ IsRow l := fun hr => by have := hr.1; omega
    simp [this]
  refine m_loop (fun m vs w' => ∃ k : Nat, m = l.length - k ∧ k ≤ l.length ∧ vs = [.int .i64 k] ∧ RowUp l k ∧ Ext w w') l.length ?_ ?_
  · exact ⟨0, by omega, by omega, rfl, RowUp.zero l, hx⟩
  · rintro m vs w' ⟨k, rfl, hk, rfl, hup, hx'⟩
    simp only [↓vsd, vsn, gW, qd, qv, ev, pick, argE, zipE, ne_eq, eq_self, forall_const, implies_true, if_true, if_false, reduceIte, reduceCtorEq, Nat.reduceEqDiff, Nat.reduceAdd, Nat.reduceLT, ↓us_sl1Row, r_sl1Row]
    have hb := (l.getD k 0).toNat_lt
    ((repeat' (first | (with_reducible refine And.intro ?_ ?_) | intro _)) <;> (try first | omega | ((with_reducible refine inR_i64 ?_) <;> omega) | ((with_reducible refine inR_u8 ?_) <;> omega) | with_reducible assumption | exact Ext.refl _))
    · have : ¬ IsRow l := fun hr => by
        obtain ⟨h1, h2, h3⟩ := hr.2 k (by omega)
        omega
      simp [this]
    · refine m_loop (fun m vs w' => ∃ j : Nat, m = k - j ∧ j ≤ k ∧ vs = [.int .i64 j] ∧ (∀ i < j, l.getD i 0 ≠ l.getD k 0) ∧ Ext w w') k ?_ ?_
      · exact ⟨0, by omega, by omega, rfl, by simp, hx'⟩
      · rintro m vs w2 ⟨j, rfl, hj, rfl, hne, hx2⟩
        simp only [↓vsd, vsn, gW, qd, qv, ev, pick, argE, zipE, ne_eq, eq_self, forall_const, implies_true, if_true, if_false, reduceIte, reduceCtorEq, Nat.reduceEqDiff, Nat.reduceAdd, Nat.reduceLT, ↓us_sl1Row, r_sl1Row]
        have hc := (l.getD j 0).toNat_lt
        ((repeat' (first | (with_reducible refine And.intro ?_ ?_) | intro _)) <;> (try first | omega | ((with_reducible refine inR_i64 ?_) <;> omega) | ((with_reducible refine inR_u8 ?_) <;> omega) | with_reducible assumption | exact Ext.refl _))
        · rename_i he
          have : ¬ IsRow l := fun hr => by
            obtain ⟨h1, h2, h3⟩ := hr.2 k (by omega)
            exact h3 j (by omega) (UInt8.toNat_inj.1 (by omega))
          simp [this]
        · rename_i he
          exact ⟨_, Nat.lt_of_lt_of_le (show k - (j + 1) < k - j by omega) (Nat.le_refl _), j + 1, rfl, by omega, by simp, fun i hi => by
            by_cases hij : i = j
            · subst hij; intro h; rw [h] at he; exact he rfl
            · exact hne i (by omega), hx2⟩
        · exact ⟨_, Nat.lt_of_lt_of_le (show l.length - (k + 1) < l.length - k by omega) (Nat.le_refl _), k + 1, rfl, by omega, by simp, hup.succ (by omega) (by omega) (fun i hi => hne i (by omega)), hx2⟩
    · have : IsRow l := ⟨by omega, by rw [show l.length = k by omega]; exact hup⟩
      simp [this]
end Go.Proofs.Ytpnopboffalfnaa
