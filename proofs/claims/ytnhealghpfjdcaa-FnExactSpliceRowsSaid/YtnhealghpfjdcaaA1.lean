/-
  Contracts of the smallest functions: bounds, rows.
  Conditions: none.
-/
import Derived.Test.YtnhealghpfjdcaaVf
import Derived.Test.YtnhealghpfjdcaaPa
set_option linter.unusedSimpArgs false
set_option linter.unusedVariables false
set_option linter.defProp false
namespace Go.Proofs.Ytnhealghpfjdcaa
open Go Go.RowKit
section
variable (P : Program) (k : KT) (e : Env) (w : World)
abbrev b185_1 : X := (.seq (.reg [6] (.c (.q 7 [] (.mv (.t 1))) (.c (.q 8 [] (.mv (.t 0))) (.c (.q 9 [] (.bin .leq (.t 7) (.t 8))) (.c (.q 10 [] (.mv (.t 9))) (.c (.q 11 [(10, true)] (.mv (.t 0))) (.c (.q 12 [(10, true)] (.mv (.t 2))) (.c (.q 13 [(10, true)] (.bin .leq (.t 11) (.t 12))) (.c (.q 14 [] (.pick (.t 10) (.t 13) (.c (.bool false)))) (.c (.q 6 [] (.mv (.t 14))) .nil)))))))))) .ret)
def t185_1 := b185_1
theorem u185_1 : vcK P t185_1 k e w = vcK P b185_1 k e w := rfl
abbrev b185_0 : X := (.seq (.reg [0, 1, 2] (.c (.q 6 [] (.mv (.c (.bool false)))) .nil)) t185_1)
def x_iwithin := b185_0
theorem u185_0 : vcK P x_iwithin k e w = vcK P b185_0 k e w := rfl
def r_iwithin : List XO := [(.mv (.t 6))]
theorem c_iwithin : convF Try.prog [89, 116, 117, 121, 143, 161, 162, 163, 166, 168, 234] Try.f185 [([0, 1, 2], []), ([6], [])] = some (x_iwithin, r_iwithin) := by kernel_rfl
def us_iwithin := aI @u185_0 @u185_1
abbrev b118_1 : X := (.seq (.reg [6] (.c (.q 7 [] (.mv (.t 0))) (.c (.q 8 [] (.mv (.t 1))) (.c (.q 9 [] (.bin .geq (.t 7) (.t 8))) (.c (.q 10 [] (.mv (.t 9))) (.c (.q 11 [(10, true)] (.mv (.t 0))) (.c (.q 12 [(10, true)] (.mv (.t 2))) (.c (.q 13 [(10, true)] (.bin .leq (.t 11) (.t 12))) (.c (.q 14 [] (.pick (.t 10) (.t 13) (.c (.bool false)))) (.c (.q 6 [] (.mv (.t 14))) .nil)))))))))) .ret)
def t118_1 := b118_1
theorem u118_1 : vcK P t118_1 k e w = vcK P b118_1 k e w := rfl
abbrev b118_0 : X := (.seq (.reg [0, 1, 2] (.c (.q 6 [] (.mv (.c (.bool false)))) .nil)) t118_1)
def x_sl1In := b118_0
theorem u118_0 : vcK P x_sl1In k e w = vcK P b118_0 k e w := rfl
def r_sl1In : List XO := [(.mv (.t 6))]
theorem c_sl1In : convF Try.prog [89, 116, 117, 121, 143, 161, 162, 163, 166, 168, 234] Try.f118 [([0, 1, 2], []), ([6], [])] = some (x_sl1In, r_sl1In) := by kernel_rfl
def us_sl1In := aI @u118_0 @u118_1
abbrev b108_1 : X := (.seq (.reg [2] (.c (.q 3 [] (.mv (.t 0))) (.c (.q 4 [] (.bin .leq (.c (.int .i64 3)) (.t 3))) (.c (.q 5 [] (.mv (.t 4))) (.c (.q 6 [(5, true)] (.mv (.t 0))) (.c (.q 7 [(5, true)] (.bin .leq (.t 6) (.c (.int .i64 8)))) (.c (.q 8 [] (.pick (.t 5) (.t 7) (.c (.bool false)))) (.c (.q 2 [] (.mv (.t 8))) .nil)))))))) .ret)
def t108_1 := b108_1
theorem u108_1 : vcK P t108_1 k e w = vcK P b108_1 k e w := rfl
abbrev b108_0 : X := (.seq (.reg [0] (.c (.q 2 [] (.mv (.c (.bool false)))) .nil)) t108_1)
def x_iisStage := b108_0
theorem u108_0 : vcK P x_iisStage k e w = vcK P b108_0 k e w := rfl
def r_iisStage : List XO := [(.mv (.t 2))]
theorem c_iisStage : convF Try.prog [89, 116, 117, 121, 143, 161, 162, 163, 166, 168, 234] Try.f108 [([0], []), ([2], [])] = some (x_iisStage, r_iisStage) := by kernel_rfl
def us_iisStage := aI @u108_0 @u108_1
abbrev b110_1 : X := (.cond (.t 9) (.seq (.reg [2] (.c (.q 2 [] (.mv (.c (.bool false)))) .nil)) .ret) .skip)
def t110_1 := b110_1
theorem u110_1 : vcK P t110_1 k e w = vcK P b110_1 k e w := rfl
abbrev b110_2 : X := (.cond (.t 34) (.seq (.reg [2] (.c (.q 2 [] (.mv (.c (.bool false)))) .nil)) .ret) .skip)
def t110_2 := b110_2
theorem u110_2 : vcK P t110_2 k e w = vcK P b110_2 k e w := rfl
abbrev b110_3 : X := (.reg [0, 3, 11, 12] (.c (.q 35 [] (.mv (.t 3))) (.c (.q 36 [] (.mv (.t 5))) (.c (.q 37 [] (.bin .shl (.c (.int .i64 1)) (.t 36))) (.c (.q 38 [] (.bin .or (.t 35) (.t 37))) (.c (.q 3 [] (.mv (.t 38))) .nil))))))
def t110_3 := b110_3
theorem u110_3 : vcK P t110_3 k e w = vcK P b110_3 k e w := rfl
abbrev b110_4 : X := (.seq (.seq (.reg [0, 3, 5, 11, 12, 34] (.c (.q 20 [] (.mv (.t 5))) (.c (.q 21 [] (.bin .lss (.t 20) (.c (.int .i64 0)))) (.c (.q 22 [] (.mv (.t 21))) (.c (.q 23 [(22, false)] (.mv (.t 5))) (.c (.q 24 [(22, false)] (.mv (.t 0))) (.c (.q 25 [(22, false)] (.len (.t 24))) (.c (.q 26 [(22, false)] (.bin .geq (.t 23) (.t 25))) (.c (.q 27 [] (.pick (.t 22) (.c (.bool true)) (.t 26))) (.c (.q 28 [] (.mv (.t 27))) (.c (.q 29 [(28, false)] (.mv (.t 3))) (.c (.q 30 [(28, false)] (.mv (.t 5))) (.c (.q 31 [(28, false)] (.bin .shr (.t 29) (.t 30))) (.c (.q 32 [(28, false)] (.bin .and (.t 31) (.c (.int .i64 1)))) (.c (.q 33 [(28, false)] (.bin .eql (.t 32) (.c (.int .i64 1)))) (.c (.q 34 [] (.pick (.t 28) (.c (.bool true)) (.t 33))) .nil)))))))))))))))) t110_2) t110_3)
def t110_4 := b110_4
theorem u110_4 : vcK P t110_4 k e w = vcK P b110_4 k e w := rfl
abbrev b110_5 : X := (.seq (.reg [0, 3, 5, 11, 12] (.c (.q 15 [] (.mv (.t 0))) (.c (.q 16 [] (.mv (.t 4))) (.c (.q 17 [] (.idx (.t 15) (.t 16))) (.c (.q 18 [] (.cvi .i64 (.t 17))) (.c (.q 19 [] (.bin .sub (.t 18) (.c (.int .i64 49)))) (.c (.q 5 [] (.mv (.t 19))) .nil))))))) t110_4)
def t110_5 := b110_5
theorem u110_5 : vcK P t110_5 k e w = vcK P b110_5 k e w := rfl
abbrev b110_6 : X := (.reg [0, 3, 11, 12] (.c (.q 39 [] (.bin .add (.t 12) (.c (.int .i64 1)))) (.c (.q 12 [] (.mv (.t 39))) .nil)))
def t110_6 := b110_6
theorem u110_6 : vcK P t110_6 k e w = vcK P b110_6 k e w := rfl
abbrev b110_7 : X := (.seq (.blk 1 (.seq (.reg [0, 3, 4, 11, 12] (.c (.q 14 [] (.mv (.t 12))) (.c (.q 4 [] (.mv (.t 14))) .nil))) t110_5)) t110_6)
def t110_7 := b110_7
theorem u110_7 : vcK P t110_7 k e w = vcK P b110_7 k e w := rfl
abbrev b110_8 : X := (.seq (.cond (.t 13) .skip (.exit 0)) t110_7)
def t110_8 := b110_8
theorem u110_8 : vcK P t110_8 k e w = vcK P b110_8 k e w := rfl
abbrev b110_9 : X := (.seq (.reg [0, 3, 11, 12, 13] (.c (.q 13 [] (.bin .lss (.t 12) (.t 11))) .nil)) t110_8)
def t110_9 := b110_9
theorem u110_9 : vcK P t110_9 k e w = vcK P b110_9 k e w := rfl
abbrev b110_10 : X := (.blk 0 (.loop [3, 12] [0, 11] t110_9))
def t110_10 := b110_10
theorem u110_10 : vcK P t110_10 k e w = vcK P b110_10 k e w := rfl
abbrev b110_11 : X := (.seq (.reg [2] (.c (.q 2 [] (.mv (.c (.bool true)))) .nil)) .ret)
def t110_11 := b110_11
theorem u110_11 : vcK P t110_11 k e w = vcK P b110_11 k e w := rfl
abbrev b110_12 : X := (.seq (.seq (.reg [0, 3, 11, 12] (.c (.q 10 [] (.mv (.t 0))) (.c (.q 11 [] (.len (.t 10))) (.c (.q 12 [] (.mv (.c (.int .i64 0)))) .nil)))) t110_10) t110_11)
def t110_12 := b110_12
theorem u110_12 : vcK P t110_12 k e w = vcK P b110_12 k e w := rfl
abbrev b110_13 : X := (.seq (.reg [0, 3] (.c (.q 3 [] (.mv (.c (.int .i64 0)))) .nil)) t110_12)
def t110_13 := b110_13
theorem u110_13 : vcK P t110_13 k e w = vcK P b110_13 k e w := rfl
abbrev b110_14 : X := (.seq (.seq (.reg [0, 9] (.c (.q 6 [] (.mv (.t 0))) (.c (.q 7 [] (.len (.t 6))) (.c (.e (some 8) [] (.call false 108 [(.t 7)])) (.c (.q 9 [] (.not (.t 8))) .nil))))) t110_1) t110_13)
def t110_14 := b110_14
theorem u110_14 : vcK P t110_14 k e w = vcK P b110_14 k e w := rfl
abbrev b110_0 : X := (.seq (.reg [0] (.c (.q 2 [] (.mv (.c (.bool false)))) .nil)) t110_14)
def x_iGoodRow := b110_0
theorem u110_0 : vcK P x_iGoodRow k e w = vcK P b110_0 k e w := rfl
def r_iGoodRow : List XO := [(.mv (.t 2))]
theorem c_iGoodRow : convF Try.prog [89, 116, 117, 121, 143, 161, 162, 163, 166, 168, 234] Try.f110 [([0], []), ([0, 9], []), ([2], []), ([0, 3], []), ([0, 3, 11, 12], []), ([3, 12], [0, 11]), ([0, 3, 11, 12, 13], []), ([0, 3, 4, 11, 12], []), ([0, 3, 5, 11, 12], []), ([0, 3, 5, 11, 12, 34], []), ([2], []), ([0, 3, 11, 12], []), ([0, 3, 11, 12], []), ([2], [])] = some (x_iGoodRow, r_iGoodRow) := by kernel_rfl
def us_iGoodRow := aI @u110_0 (aI @u110_1 (aI @u110_2 (aI @u110_3 (aI @u110_4 (aI @u110_5 (aI @u110_6 (aI @u110_7 (aI @u110_8 (aI @u110_9 (aI @u110_10 (aI @u110_11 (aI @u110_12 (aI @u110_13 @u110_14)))))))))))))
abbrev b120_1 : X := (.cond (.t 8) (.seq (.reg [2] (.c (.q 2 [] (.mv (.c (.bool false)))) .nil)) .ret) .skip)
def t120_1 := b120_1
theorem u120_1 : vcK P t120_1 k e w = vcK P b120_1 k e w := rfl
abbrev b120_2 : X := (.cond (.t 12) .skip (.exit 0))
def t120_2 := b120_2
theorem u120_2 : vcK P t120_2 k e w = vcK P b120_2 k e w := rfl
abbrev b120_3 : X := (.cond (.t 28) (.seq (.reg [2] (.c (.q 2 [] (.mv (.c (.bool false)))) .nil)) .ret) .skip)
def t120_3 := b120_3
theorem u120_3 : vcK P t120_3 k e w = vcK P b120_3 k e w := rfl
abbrev b120_4 : X := (.cond (.t 31) .skip (.exit 2))
def t120_4 := b120_4
theorem u120_4 : vcK P t120_4 k e w = vcK P b120_4 k e w := rfl
abbrev b120_5 : X := (.cond (.t 40) (.seq (.reg [2] (.c (.q 2 [] (.mv (.c (.bool false)))) .nil)) .ret) .skip)
def t120_5 := b120_5
theorem u120_5 : vcK P t120_5 k e w = vcK P b120_5 k e w := rfl
abbrev b120_6 : X := (.reg [0, 3, 4] (.c (.q 32 [] (.mv (.t 4))) (.c (.q 33 [] (.bin .add (.t 32) (.c (.int .i64 1)))) (.c (.q 4 [] (.mv (.t 33))) .nil))))
def t120_6 := b120_6
theorem u120_6 : vcK P t120_6 k e w = vcK P b120_6 k e w := rfl
abbrev b120_7 : X := (.seq (.blk 3 (.seq (.drw [0, 3, 4, 40] (.c (.q 34 [] (.mv (.t 0))) (.c (.q 35 [] (.mv (.t 4))) (.c (.q 36 [] (.idx (.t 34) (.t 35))) (.c (.q 37 [] (.mv (.t 0))) (.c (.q 38 [] (.mv (.t 3))) (.c (.q 39 [] (.idx (.t 37) (.t 38))) (.c (.q 40 [] (.bin .eql (.t 36) (.t 39))) .nil)))))))) t120_5)) t120_6)
def t120_7 := b120_7
theorem u120_7 : vcK P t120_7 k e w = vcK P b120_7 k e w := rfl
abbrev b120_8 : X := (.seq (.seq (.reg [0, 3, 4, 31] (.c (.q 29 [] (.mv (.t 4))) (.c (.q 30 [] (.mv (.t 3))) (.c (.q 31 [] (.bin .lss (.t 29) (.t 30))) .nil)))) t120_4) t120_7)
def t120_8 := b120_8
theorem u120_8 : vcK P t120_8 k e w = vcK P b120_8 k e w := rfl
abbrev b120_9 : X := (.blk 2 (.loop [4] [0, 3] t120_8))
def t120_9 := b120_9
theorem u120_9 : vcK P t120_9 k e w = vcK P b120_9 k e w := rfl
abbrev b120_10 : X := (.seq (.reg [0, 3, 4] (.c (.q 4 [] (.mv (.c (.int .i64 0)))) .nil)) t120_9)
def t120_10 := b120_10
theorem u120_10 : vcK P t120_10 k e w = vcK P b120_10 k e w := rfl
abbrev b120_11 : X := (.reg [0, 3] (.c (.q 13 [] (.mv (.t 3))) (.c (.q 14 [] (.bin .add (.t 13) (.c (.int .i64 1)))) (.c (.q 3 [] (.mv (.t 14))) .nil))))
def t120_11 := b120_11
theorem u120_11 : vcK P t120_11 k e w = vcK P b120_11 k e w := rfl
abbrev b120_12 : X := (.seq (.blk 1 (.seq (.seq (.reg [0, 3, 28] (.c (.q 15 [] (.mv (.t 0))) (.c (.q 16 [] (.mv (.t 3))) (.c (.q 17 [] (.idx (.t 15) (.t 16))) (.c (.q 18 [] (.bin .lss (.t 17) (.c (.int .u8 49)))) (.c (.q 19 [] (.mv (.t 18))) (.c (.q 20 [(19, false)] (.mv (.t 0))) (.c (.q 21 [(19, false)] (.mv (.t 3))) (.c (.q 22 [(19, false)] (.idx (.t 20) (.t 21))) (.c (.q 23 [(19, false)] (.bin .sub (.t 22) (.c (.int .u8 48)))) (.c (.q 24 [(19, false)] (.cvi .i64 (.t 23))) (.c (.q 25 [(19, false)] (.mv (.t 0))) (.c (.q 26 [(19, false)] (.len (.t 25))) (.c (.q 27 [(19, false)] (.bin .gtr (.t 24) (.t 26))) (.c (.q 28 [] (.pick (.t 19) (.c (.bool true)) (.t 27))) .nil))))))))))))))) t120_3) t120_10)) t120_11)
def t120_12 := b120_12
theorem u120_12 : vcK P t120_12 k e w = vcK P b120_12 k e w := rfl
abbrev b120_13 : X := (.seq (.seq (.reg [0, 3, 12] (.c (.q 9 [] (.mv (.t 3))) (.c (.q 10 [] (.mv (.t 0))) (.c (.q 11 [] (.len (.t 10))) (.c (.q 12 [] (.bin .lss (.t 9) (.t 11))) .nil))))) t120_2) t120_12)
def t120_13 := b120_13
theorem u120_13 : vcK P t120_13 k e w = vcK P b120_13 k e w := rfl
abbrev b120_14 : X := (.blk 0 (.loop [3] [0] t120_13))
def t120_14 := b120_14
theorem u120_14 : vcK P t120_14 k e w = vcK P b120_14 k e w := rfl
abbrev b120_15 : X := (.seq (.reg [2] (.c (.q 2 [] (.mv (.c (.bool true)))) .nil)) .ret)
def t120_15 := b120_15
theorem u120_15 : vcK P t120_15 k e w = vcK P b120_15 k e w := rfl
abbrev b120_16 : X := (.seq (.seq (.reg [0, 3] (.c (.q 3 [] (.mv (.c (.int .i64 0)))) .nil)) t120_14) t120_15)
def t120_16 := b120_16
theorem u120_16 : vcK P t120_16 k e w = vcK P b120_16 k e w := rfl
abbrev b120_17 : X := (.seq (.seq (.reg [0, 8] (.c (.q 5 [] (.mv (.t 0))) (.c (.q 6 [] (.len (.t 5))) (.c (.e (some 7) [] (.call false 118 [(.t 6), (.c (.int .i64 3)), (.c (.int .i64 8))])) (.c (.q 8 [] (.not (.t 7))) .nil))))) t120_1) t120_16)
def t120_17 := b120_17
theorem u120_17 : vcK P t120_17 k e w = vcK P b120_17 k e w := rfl
abbrev b120_0 : X := (.seq (.reg [0] (.c (.q 2 [] (.mv (.c (.bool false)))) .nil)) t120_17)
def x_sl1Row := b120_0
theorem u120_0 : vcK P x_sl1Row k e w = vcK P b120_0 k e w := rfl
def r_sl1Row : List XO := [(.mv (.t 2))]
theorem c_sl1Row : convF Try.prog [89, 116, 117, 121, 143, 161, 162, 163, 166, 168, 234] Try.f120 [([0], []), ([0, 8], []), ([2], []), ([0, 3], []), ([3], [0]), ([0, 3, 12], []), ([0, 3, 28], []), ([2], []), ([0, 3, 4], []), ([4], [0, 3]), ([0, 3, 4, 31], []), ([0, 3, 4, 40], []), ([2], []), ([0, 3, 4], []), ([0, 3], []), ([2], [])] = some (x_sl1Row, r_sl1Row) := by kernel_rfl
def us_sl1Row := aI @u120_0 (aI @u120_1 (aI @u120_2 (aI @u120_3 (aI @u120_4 (aI @u120_5 (aI @u120_6 (aI @u120_7 (aI @u120_8 (aI @u120_9 (aI @u120_10 (aI @u120_11 (aI @u120_12 (aI @u120_13 (aI @u120_14 (aI @u120_15 (aI @u120_16 @u120_17))))))))))))))))
end

theorem iwithin_ok (n lo hi : Int) (w : World) : Fn 185 [.int .i64 n, .int .i64 lo, .int .i64 hi] w (fun v _ => v = .bool (decide (lo ≤ n) && decide (n ≤ hi))) := by
  (refine callsV_of mix Try.func185 c_iwithin ?_; simp only [↓vsd, vsn, gW, qd, qv, ev, pick, argE, zipE, ne_eq, eq_self, forall_const, implies_true, if_true, if_false, reduceIte, reduceCtorEq, Nat.reduceEqDiff, Nat.reduceAdd, Nat.reduceLT, ↓us_iwithin, r_iwithin])
  exact Ext.refl _
theorem sl1In_ok (n lo hi : Int) (w : World) : Fn 118 [.int .i64 n, .int .i64 lo, .int .i64 hi] w (fun v _ => v = .bool (decide (lo ≤ n) && decide (n ≤ hi))) := by
  (refine callsV_of mix Try.func118 c_sl1In ?_; simp only [↓vsd, vsn, gW, qd, qv, ev, pick, argE, zipE, ne_eq, eq_self, forall_const, implies_true, if_true, if_false, reduceIte, reduceCtorEq, Nat.reduceEqDiff, Nat.reduceAdd, Nat.reduceLT, ↓us_sl1In, r_sl1In])
  exact Ext.refl _
theorem iisStage_ok (n : Int) (w : World) : Fn 108 [.int .i64 n] w (fun v _ => v = .bool (decide (3 ≤ n) && decide (n ≤ 8))) := by
  (refine callsV_of mix Try.func108 c_iisStage ?_; simp only [↓vsd, vsn, gW, qd, qv, ev, pick, argE, zipE, ne_eq, eq_self, forall_const, implies_true, if_true, if_false, reduceIte, reduceCtorEq, Nat.reduceEqDiff, Nat.reduceAdd, Nat.reduceLT, ↓us_iisStage, r_iisStage])
  exact Ext.refl _
theorem iGoodRow_ok (l : List UInt8) (w : World) : Fn 110 [S l] w (fun v _ => v = .bool (decide (IsRow l))) := by
  (refine callsV_of mix Try.func110 c_iGoodRow ?_; simp only [↓vsd, vsn, gW, qd, qv, ev, pick, argE, zipE, ne_eq, eq_self, forall_const, implies_true, if_true, if_false, reduceIte, reduceCtorEq, Nat.reduceEqDiff, Nat.reduceAdd, Nat.reduceLT, ↓us_iGoodRow, r_iGoodRow])
  refine m_call (iisStage_ok _ _) ?_
  rintro _ w1 hx rfl
  simp only [↓vsd, vsn, gW, qd, qv, ev, pick, argE, zipE, ne_eq, eq_self, forall_const, implies_true, if_true, if_false, reduceIte, reduceCtorEq, Nat.reduceEqDiff, Nat.reduceAdd, Nat.reduceLT, ↓us_iGoodRow, r_iGoodRow]
  refine ⟨fun h => ⟨hx, ?_⟩, fun h => ?_⟩
  · have : ¬ IsRow l := fun hr => by have := hr.1; omega
    simp [this]
  refine m_loop (fun m vs w' => ∃ k s : Nat, m = l.length - k ∧ k ≤ l.length ∧ s < 256 ∧ vs = [.int .i64 s, .int .i64 k] ∧ RowUp l k ∧ (∀ c < 8, s.testBit c = true ↔ ∃ j < k, (l.getD j 0).toNat = 49 + c) ∧ Ext w w') l.length ?_ ?_
  · exact ⟨0, 0, by omega, by omega, by omega, rfl, RowUp.zero l, by simp, hx⟩
  · rintro m vs w' ⟨k, s, rfl, hk, hs, rfl, hup, hbit, hx'⟩
    simp only [↓vsd, vsn, gW, qd, qv, ev, pick, argE, zipE, ne_eq, eq_self, forall_const, implies_true, if_true, if_false, reduceIte, reduceCtorEq, Nat.reduceEqDiff, Nat.reduceAdd, Nat.reduceLT, ↓us_iGoodRow, r_iGoodRow]
    have hb := (l.getD k 0).toNat_lt
    refine ⟨fun hlt => ⟨⟨by omega, hlt⟩, inR_i64 (by omega), fun h => h.1, fun hbad => ⟨hx', ?_⟩, ?_⟩, fun hge => ⟨hx', ?_⟩⟩
    · have hn : ¬ IsRow l := fun hr => by
        obtain ⟨h1, h2, h3⟩ := hr.2 k (by omega)
        obtain ⟨c, hc⟩ : ∃ c : Nat, (l.getD k 0).toNat = 49 + c := ⟨(l.getD k 0).toNat - 49, by omega⟩
        rw [show ((l.getD k 0).toNat : Int) - 49 = (c : Nat) by omega] at hbad
        rcases hbad with hbad | hbad
        · omega
        · rw [Int.toNat_natCast, bit_and ⟨s, hs⟩ ⟨c, by omega⟩, hbit c (by omega)] at hbad
          obtain ⟨j, hj, he⟩ := hbad
          exact h3 j hj (UInt8.toNat_inj.1 (by omega))
      simp [hn]
    · rintro ⟨⟨h1, h2⟩, h3⟩
      obtain ⟨c, hc⟩ : ∃ c : Nat, (l.getD k 0).toNat = 49 + c := ⟨(l.getD k 0).toNat - 49, by omega⟩
      rw [show ((l.getD k 0).toNat : Int) - 49 = (c : Nat) by omega] at h3 ⊢
      rw [Int.toNat_natCast] at h3 ⊢
      rw [bit_and ⟨s, hs⟩ ⟨c, by omega⟩, hbit c (by omega)] at h3
      refine ⟨by omega, inR_i64 (by omega), _, Nat.lt_of_lt_of_le ?_ (Nat.le_refl _), k + 1, s ||| 2 ^ c, rfl, by omega, bit_lt ⟨s, hs⟩ ⟨c, by omega⟩, ⟨?_, by simp⟩, hup.succ (by omega) (by omega) (fun j hj he => h3 ⟨j, hj, by rw [he]; exact hc⟩), fun d hd => ?_, hx'⟩
      · omega
      · rw [bit_or ⟨s, hs⟩ ⟨c, by omega⟩]
      · rw [bit_test ⟨s, hs⟩ ⟨c, by omega⟩ ⟨d, hd⟩, hbit d hd]
        constructor
        · rintro (⟨j, hj, he⟩ | he)
          · exact ⟨j, by omega, he⟩
          · exact ⟨k, by omega, by rw [hc]; simp only at he; omega⟩
        · rintro ⟨j, hj, he⟩
          by_cases hjk : j = k
          · subst hjk; right; simp only; omega
          · exact Or.inl ⟨j, by omega, he⟩
    · have : IsRow l := ⟨by omega, by rw [show l.length = k by omega]; exact hup⟩
      simp [this]
theorem sl1Row_ok (l : List UInt8) (w : World) : Fn 120 [S l] w (fun v _ => v = .bool (decide (IsRow l))) := by
  (refine callsV_of mix Try.func120 c_sl1Row ?_; simp only [↓vsd, vsn, gW, qd, qv, ev, pick, argE, zipE, ne_eq, eq_self, forall_const, implies_true, if_true, if_false, reduceIte, reduceCtorEq, Nat.reduceEqDiff, Nat.reduceAdd, Nat.reduceLT, ↓us_sl1Row, r_sl1Row])
  refine m_call (sl1In_ok _ _ _ _) ?_
  rintro _ w1 hx rfl
  simp only [↓vsd, vsn, gW, qd, qv, ev, pick, argE, zipE, ne_eq, eq_self, forall_const, implies_true, if_true, if_false, reduceIte, reduceCtorEq, Nat.reduceEqDiff, Nat.reduceAdd, Nat.reduceLT, ↓us_sl1Row, r_sl1Row]
  refine ⟨fun h => ⟨hx, ?_⟩, fun h => ?_⟩
  · have : ¬ IsRow l := fun hr => by have := hr.1; omega
    simp [this]
  refine m_loop (fun m vs w' => ∃ k : Nat, m = l.length - k ∧ k ≤ l.length ∧ vs = [.int .i64 k] ∧ RowUp l k ∧ Ext w w') l.length ?_ ?_
  · exact ⟨0, by omega, by omega, rfl, RowUp.zero l, hx⟩
  · rintro m vs w' ⟨k, rfl, hk, rfl, hup, hx'⟩
    simp only [↓vsd, vsn, gW, qd, qv, ev, pick, argE, zipE, ne_eq, eq_self, forall_const, implies_true, if_true, if_false, reduceIte, reduceCtorEq, Nat.reduceEqDiff, Nat.reduceAdd, Nat.reduceLT, ↓us_sl1Row, r_sl1Row]
    have hb := (l.getD k 0).toNat_lt
    ((repeat' (first | (with_reducible refine And.intro ?_ ?_) | intro _)) <;> (try first | omega | ((with_reducible refine inR_i64 ?_) <;> omega) | ((with_reducible refine inR_u8 ?_) <;> omega) | with_reducible assumption | exact Ext.refl _))
    · have : ¬ IsRow l := fun hr => by
        obtain ⟨h1, h2, h3⟩ := hr.2 k (by omega)
        omega
      simp [this]
    · refine m_loop (fun m vs w' => ∃ j : Nat, m = k - j ∧ j ≤ k ∧ vs = [.int .i64 j] ∧ (∀ i < j, l.getD i 0 ≠ l.getD k 0) ∧ Ext w w') k ?_ ?_
      · exact ⟨0, by omega, by omega, rfl, by simp, hx'⟩
      · rintro m vs w2 ⟨j, rfl, hj, rfl, hne, hx2⟩
        simp only [↓vsd, vsn, gW, qd, qv, ev, pick, argE, zipE, ne_eq, eq_self, forall_const, implies_true, if_true, if_false, reduceIte, reduceCtorEq, Nat.reduceEqDiff, Nat.reduceAdd, Nat.reduceLT, ↓us_sl1Row, r_sl1Row]
        have hc := (l.getD j 0).toNat_lt
        ((repeat' (first | (with_reducible refine And.intro ?_ ?_) | intro _)) <;> (try first | omega | ((with_reducible refine inR_i64 ?_) <;> omega) | ((with_reducible refine inR_u8 ?_) <;> omega) | with_reducible assumption | exact Ext.refl _))
        · rename_i he
          have : ¬ IsRow l := fun hr => by
            obtain ⟨h1, h2, h3⟩ := hr.2 k (by omega)
            exact h3 j (by omega) (UInt8.toNat_inj.1 (by omega))
          simp [this]
        · rename_i he
          exact ⟨_, Nat.lt_of_lt_of_le (show k - (j + 1) < k - j by omega) (Nat.le_refl _), j + 1, rfl, by omega, by simp, fun i hi => by
            by_cases hij : i = j
            · subst hij; intro h; rw [h] at he; exact he rfl
            · exact hne i (by omega), hx2⟩
        · exact ⟨_, Nat.lt_of_lt_of_le (show l.length - (k + 1) < l.length - k by omega) (Nat.le_refl _), k + 1, rfl, by omega, by simp, hup.succ (by omega) (by omega) (fun i hi => hne i (by omega)), hx2⟩
    · have : IsRow l := ⟨by omega, by rw [show l.length = k by omega]; exact hup⟩
      simp [this]
end Go.Proofs.Ytnhealghpfjdcaa
