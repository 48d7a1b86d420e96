/-
  Contracts of the smallest functions: bounds, rows.
  Conditions: none.
-/
import Derived.Test.YtnincmnkdjlndaaVf
import Derived.Test.YtnincmnkdjlndaaPa
set_option linter.unusedSimpArgs false
set_option linter.unusedVariables false
set_option linter.defProp false
namespace Go.Proofs.Ytnincmnkdjlndaa
open Go Go.RowKit
section
variable (P : Program) (k : KT) (e : Env) (w : World)
abbrev b334_1 : X := (.seq (.reg [6] (.c (.q 7 [] (.mv (.t 1))) (.c (.q 8 [] (.mv (.t 0))) (.c (.q 9 [] (.bin .leq (.t 7) (.t 8))) (.c (.q 10 [] (.mv (.t 9))) (.c (.q 11 [(10, true)] (.mv (.t 0))) (.c (.q 12 [(10, true)] (.mv (.t 2))) (.c (.q 13 [(10, true)] (.bin .leq (.t 11) (.t 12))) (.c (.q 14 [] (.pick (.t 10) (.t 13) (.c (.bool false)))) (.c (.q 6 [] (.mv (.t 14))) .nil)))))))))) .ret)
def t334_1 := b334_1
theorem u334_1 : vcK P t334_1 k e w = vcK P b334_1 k e w := rfl
abbrev b334_0 : X := (.seq (.reg [0, 1, 2] (.c (.q 6 [] (.mv (.c (.bool false)))) .nil)) t334_1)
def x_iwithin := b334_0
theorem u334_0 : vcK P x_iwithin k e w = vcK P b334_0 k e w := rfl
def r_iwithin : List XO := [(.mv (.t 6))]
theorem c_iwithin : convF Try.prog [147, 148, 152, 160, 162, 163, 170, 178, 206, 208, 210, 224, 233, 235, 236, 251, 264, 265, 268, 270, 287, 322] Try.f334 [([0, 1, 2], []), ([6], [])] = some (x_iwithin, r_iwithin) := by kernel_rfl
def us_iwithin :=  (aI @u334_0 @u334_1)
abbrev b149_1 : X := (.seq (.reg [6] (.c (.q 7 [] (.mv (.t 0))) (.c (.q 8 [] (.mv (.t 1))) (.c (.q 9 [] (.bin .geq (.t 7) (.t 8))) (.c (.q 10 [] (.mv (.t 9))) (.c (.q 11 [(10, true)] (.mv (.t 0))) (.c (.q 12 [(10, true)] (.mv (.t 2))) (.c (.q 13 [(10, true)] (.bin .leq (.t 11) (.t 12))) (.c (.q 14 [] (.pick (.t 10) (.t 13) (.c (.bool false)))) (.c (.q 6 [] (.mv (.t 14))) .nil)))))))))) .ret)
def t149_1 := b149_1
theorem u149_1 : vcK P t149_1 k e w = vcK P b149_1 k e w := rfl
abbrev b149_0 : X := (.seq (.reg [0, 1, 2] (.c (.q 6 [] (.mv (.c (.bool false)))) .nil)) t149_1)
def x_sl1In := b149_0
theorem u149_0 : vcK P x_sl1In k e w = vcK P b149_0 k e w := rfl
def r_sl1In : List XO := [(.mv (.t 6))]
theorem c_sl1In : convF Try.prog [147, 148, 152, 160, 162, 163, 170, 178, 206, 208, 210, 224, 233, 235, 236, 251, 264, 265, 268, 270, 287, 322] Try.f149 [([0, 1, 2], []), ([6], [])] = some (x_sl1In, r_sl1In) := by kernel_rfl
def us_sl1In :=  (aI @u149_0 @u149_1)
abbrev b139_1 : X := (.seq (.reg [2] (.c (.q 3 [] (.mv (.t 0))) (.c (.q 4 [] (.bin .leq (.c (.int .i64 3)) (.t 3))) (.c (.q 5 [] (.mv (.t 4))) (.c (.q 6 [(5, true)] (.mv (.t 0))) (.c (.q 7 [(5, true)] (.bin .leq (.t 6) (.c (.int .i64 8)))) (.c (.q 8 [] (.pick (.t 5) (.t 7) (.c (.bool false)))) (.c (.q 2 [] (.mv (.t 8))) .nil)))))))) .ret)
def t139_1 := b139_1
theorem u139_1 : vcK P t139_1 k e w = vcK P b139_1 k e w := rfl
abbrev b139_0 : X := (.seq (.reg [0] (.c (.q 2 [] (.mv (.c (.bool false)))) .nil)) t139_1)
def x_iisStage := b139_0
theorem u139_0 : vcK P x_iisStage k e w = vcK P b139_0 k e w := rfl
def r_iisStage : List XO := [(.mv (.t 2))]
theorem c_iisStage : convF Try.prog [147, 148, 152, 160, 162, 163, 170, 178, 206, 208, 210, 224, 233, 235, 236, 251, 264, 265, 268, 270, 287, 322] Try.f139 [([0], []), ([2], [])] = some (x_iisStage, r_iisStage) := by kernel_rfl
def us_iisStage :=  (aI @u139_0 @u139_1)
abbrev b141_1 : X := (.cond (.t 9) (.seq (.reg [2] (.c (.q 2 [] (.mv (.c (.bool false)))) .nil)) .ret) .skip)
def t141_1 := b141_1
theorem u141_1 : vcK P t141_1 k e w = vcK P b141_1 k e w := rfl
abbrev b141_2 : X := (.cond (.t 34) (.seq (.reg [2] (.c (.q 2 [] (.mv (.c (.bool false)))) .nil)) .ret) .skip)
def t141_2 := b141_2
theorem u141_2 : vcK P t141_2 k e w = vcK P b141_2 k e w := rfl
abbrev b141_3 : X := (.reg [0, 3, 11, 12] (.c (.q 35 [] (.mv (.t 3))) (.c (.q 36 [] (.mv (.t 5))) (.c (.q 37 [] (.bin .shl (.c (.int .i64 1)) (.t 36))) (.c (.q 38 [] (.bin .or (.t 35) (.t 37))) (.c (.q 3 [] (.mv (.t 38))) .nil))))))
def t141_3 := b141_3
theorem u141_3 : vcK P t141_3 k e w = vcK P b141_3 k e w := rfl
abbrev b141_4 : X := (.seq (.seq (.reg [0, 3, 5, 11, 12, 34] (.c (.q 20 [] (.mv (.t 5))) (.c (.q 21 [] (.bin .lss (.t 20) (.c (.int .i64 0)))) (.c (.q 22 [] (.mv (.t 21))) (.c (.q 23 [(22, false)] (.mv (.t 5))) (.c (.q 24 [(22, false)] (.mv (.t 0))) (.c (.q 25 [(22, false)] (.len (.t 24))) (.c (.q 26 [(22, false)] (.bin .geq (.t 23) (.t 25))) (.c (.q 27 [] (.pick (.t 22) (.c (.bool true)) (.t 26))) (.c (.q 28 [] (.mv (.t 27))) (.c (.q 29 [(28, false)] (.mv (.t 3))) (.c (.q 30 [(28, false)] (.mv (.t 5))) (.c (.q 31 [(28, false)] (.bin .shr (.t 29) (.t 30))) (.c (.q 32 [(28, false)] (.bin .and (.t 31) (.c (.int .i64 1)))) (.c (.q 33 [(28, false)] (.bin .eql (.t 32) (.c (.int .i64 1)))) (.c (.q 34 [] (.pick (.t 28) (.c (.bool true)) (.t 33))) .nil)))))))))))))))) t141_2) t141_3)
def t141_4 := b141_4
theorem u141_4 : vcK P t141_4 k e w = vcK P b141_4 k e w := rfl
abbrev b141_5 : X := (.seq (.reg [0, 3, 5, 11, 12] (.c (.q 15 [] (.mv (.t 0))) (.c (.q 16 [] (.mv (.t 4))) (.c (.q 17 [] (.idx (.t 15) (.t 16))) (.c (.q 18 [] (.cvi .i64 (.t 17))) (.c (.q 19 [] (.bin .sub (.t 18) (.c (.int .i64 49)))) (.c (.q 5 [] (.mv (.t 19))) .nil))))))) t141_4)
def t141_5 := b141_5
theorem u141_5 : vcK P t141_5 k e w = vcK P b141_5 k e w := rfl
abbrev b141_6 : X := (.reg [0, 3, 11, 12] (.c (.q 39 [] (.bin .add (.t 12) (.c (.int .i64 1)))) (.c (.q 12 [] (.mv (.t 39))) .nil)))
def t141_6 := b141_6
theorem u141_6 : vcK P t141_6 k e w = vcK P b141_6 k e w := rfl
abbrev b141_7 : X := (.seq (.blk 1 (.seq (.reg [0, 3, 4, 11, 12] (.c (.q 14 [] (.mv (.t 12))) (.c (.q 4 [] (.mv (.t 14))) .nil))) t141_5)) t141_6)
def t141_7 := b141_7
theorem u141_7 : vcK P t141_7 k e w = vcK P b141_7 k e w := rfl
abbrev b141_8 : X := (.seq (.cond (.t 13) .skip (.exit 0)) t141_7)
def t141_8 := b141_8
theorem u141_8 : vcK P t141_8 k e w = vcK P b141_8 k e w := rfl
abbrev b141_9 : X := (.seq (.reg [0, 3, 11, 12, 13] (.c (.q 13 [] (.bin .lss (.t 12) (.t 11))) .nil)) t141_8)
def t141_9 := b141_9
theorem u141_9 : vcK P t141_9 k e w = vcK P b141_9 k e w := rfl
abbrev b141_10 : X := (.blk 0 (.loop [3, 12] [0, 11] t141_9))
def t141_10 := b141_10
theorem u141_10 : vcK P t141_10 k e w = vcK P b141_10 k e w := rfl
abbrev b141_11 : X := (.seq (.reg [2] (.c (.q 2 [] (.mv (.c (.bool true)))) .nil)) .ret)
def t141_11 := b141_11
theorem u141_11 : vcK P t141_11 k e w = vcK P b141_11 k e w := rfl
abbrev b141_12 : X := (.seq (.seq (.reg [0, 3, 11, 12] (.c (.q 10 [] (.mv (.t 0))) (.c (.q 11 [] (.len (.t 10))) (.c (.q 12 [] (.mv (.c (.int .i64 0)))) .nil)))) t141_10) t141_11)
def t141_12 := b141_12
theorem u141_12 : vcK P t141_12 k e w = vcK P b141_12 k e w := rfl
abbrev b141_13 : X := (.seq (.reg [0, 3] (.c (.q 3 [] (.mv (.c (.int .i64 0)))) .nil)) t141_12)
def t141_13 := b141_13
theorem u141_13 : vcK P t141_13 k e w = vcK P b141_13 k e w := rfl
abbrev b141_14 : X := (.seq (.seq (.reg [0, 9] (.c (.q 6 [] (.mv (.t 0))) (.c (.q 7 [] (.len (.t 6))) (.c (.e (some 8) [] (.call false 139 [(.t 7)])) (.c (.q 9 [] (.not (.t 8))) .nil))))) t141_1) t141_13)
def t141_14 := b141_14
theorem u141_14 : vcK P t141_14 k e w = vcK P b141_14 k e w := rfl
abbrev b141_0 : X := (.seq (.reg [0] (.c (.q 2 [] (.mv (.c (.bool false)))) .nil)) t141_14)
def x_iGoodRow := b141_0
theorem u141_0 : vcK P x_iGoodRow k e w = vcK P b141_0 k e w := rfl
def r_iGoodRow : List XO := [(.mv (.t 2))]
theorem c_iGoodRow : convF Try.prog [147, 148, 152, 160, 162, 163, 170, 178, 206, 208, 210, 224, 233, 235, 236, 251, 264, 265, 268, 270, 287, 322] Try.f141 [([0], []), ([0, 9], []), ([2], []), ([0, 3], []), ([0, 3, 11, 12], []), ([3, 12], [0, 11]), ([0, 3, 11, 12, 13], []), ([0, 3, 4, 11, 12], []), ([0, 3, 5, 11, 12], []), ([0, 3, 5, 11, 12, 34], []), ([2], []), ([0, 3, 11, 12], []), ([0, 3, 11, 12], []), ([2], [])] = some (x_iGoodRow, r_iGoodRow) := by kernel_rfl
def us_iGoodRow :=  (aI (aI (aI @u141_0 (aI @u141_1 @u141_2)) (aI (aI @u141_3 @u141_4) (aI @u141_5 @u141_6))) (aI (aI (aI @u141_7 @u141_8) (aI @u141_9 @u141_10)) (aI (aI @u141_11 @u141_12) (aI @u141_13 @u141_14))))
abbrev b151_1 : X := (.cond (.t 8) (.seq (.reg [2] (.c (.q 2 [] (.mv (.c (.bool false)))) .nil)) .ret) .skip)
def t151_1 := b151_1
theorem u151_1 : vcK P t151_1 k e w = vcK P b151_1 k e w := rfl
abbrev b151_2 : X := (.cond (.t 12) .skip (.exit 0))
def t151_2 := b151_2
theorem u151_2 : vcK P t151_2 k e w = vcK P b151_2 k e w := rfl
abbrev b151_3 : X := (.cond (.t 28) (.seq (.reg [2] (.c (.q 2 [] (.mv (.c (.bool false)))) .nil)) .ret) .skip)
def t151_3 := b151_3
theorem u151_3 : vcK P t151_3 k e w = vcK P b151_3 k e w := rfl
abbrev b151_4 : X := (.cond (.t 31) .skip (.exit 2))
def t151_4 := b151_4
theorem u151_4 : vcK P t151_4 k e w = vcK P b151_4 k e w := rfl
abbrev b151_5 : X := (.cond (.t 40) (.seq (.reg [2] (.c (.q 2 [] (.mv (.c (.bool false)))) .nil)) .ret) .skip)
def t151_5 := b151_5
theorem u151_5 : vcK P t151_5 k e w = vcK P b151_5 k e w := rfl
abbrev b151_6 : X := (.reg [0, 3, 4] (.c (.q 32 [] (.mv (.t 4))) (.c (.q 33 [] (.bin .add (.t 32) (.c (.int .i64 1)))) (.c (.q 4 [] (.mv (.t 33))) .nil))))
def t151_6 := b151_6
theorem u151_6 : vcK P t151_6 k e w = vcK P b151_6 k e w := rfl
abbrev b151_7 : X := (.seq (.blk 3 (.seq (.drw [0, 3, 4, 40] (.c (.q 34 [] (.mv (.t 0))) (.c (.q 35 [] (.mv (.t 4))) (.c (.q 36 [] (.idx (.t 34) (.t 35))) (.c (.q 37 [] (.mv (.t 0))) (.c (.q 38 [] (.mv (.t 3))) (.c (.q 39 [] (.idx (.t 37) (.t 38))) (.c (.q 40 [] (.bin .eql (.t 36) (.t 39))) .nil)))))))) t151_5)) t151_6)
def t151_7 := b151_7
theorem u151_7 : vcK P t151_7 k e w = vcK P b151_7 k e w := rfl
abbrev b151_8 : X := (.seq (.seq (.reg [0, 3, 4, 31] (.c (.q 29 [] (.mv (.t 4))) (.c (.q 30 [] (.mv (.t 3))) (.c (.q 31 [] (.bin .lss (.t 29) (.t 30))) .nil)))) t151_4) t151_7)
def t151_8 := b151_8
theorem u151_8 : vcK P t151_8 k e w = vcK P b151_8 k e w := rfl
abbrev b151_9 : X := (.blk 2 (.loop [4] [0, 3] t151_8))
def t151_9 := b151_9
theorem u151_9 : vcK P t151_9 k e w = vcK P b151_9 k e w := rfl
abbrev b151_10 : X := (.seq (.reg [0, 3, 4] (.c (.q 4 [] (.mv (.c (.int .i64 0)))) .nil)) t151_9)
def t151_10 := b151_10
theorem u151_10 : vcK P t151_10 k e w = vcK P b151_10 k e w := rfl
abbrev b151_11 : X := (.reg [0, 3] (.c (.q 13 [] (.mv (.t 3))) (.c (.q 14 [] (.bin .add (.t 13) (.c (.int .i64 1)))) (.c (.q 3 [] (.mv (.t 14))) .nil))))
def t151_11 := b151_11
theorem u151_11 : vcK P t151_11 k e w = vcK P b151_11 k e w := rfl
abbrev b151_12 : X := (.seq (.blk 1 (.seq (.seq (.reg [0, 3, 28] (.c (.q 15 [] (.mv (.t 0))) (.c (.q 16 [] (.mv (.t 3))) (.c (.q 17 [] (.idx (.t 15) (.t 16))) (.c (.q 18 [] (.bin .lss (.t 17) (.c (.int .u8 49)))) (.c (.q 19 [] (.mv (.t 18))) (.c (.q 20 [(19, false)] (.mv (.t 0))) (.c (.q 21 [(19, false)] (.mv (.t 3))) (.c (.q 22 [(19, false)] (.idx (.t 20) (.t 21))) (.c (.q 23 [(19, false)] (.bin .sub (.t 22) (.c (.int .u8 48)))) (.c (.q 24 [(19, false)] (.cvi .i64 (.t 23))) (.c (.q 25 [(19, false)] (.mv (.t 0))) (.c (.q 26 [(19, false)] (.len (.t 25))) (.c (.q 27 [(19, false)] (.bin .gtr (.t 24) (.t 26))) (.c (.q 28 [] (.pick (.t 19) (.c (.bool true)) (.t 27))) .nil))))))))))))))) t151_3) t151_10)) t151_11)
def t151_12 := b151_12
theorem u151_12 : vcK P t151_12 k e w = vcK P b151_12 k e w := rfl
abbrev b151_13 : X := (.seq (.seq (.reg [0, 3, 12] (.c (.q 9 [] (.mv (.t 3))) (.c (.q 10 [] (.mv (.t 0))) (.c (.q 11 [] (.len (.t 10))) (.c (.q 12 [] (.bin .lss (.t 9) (.t 11))) .nil))))) t151_2) t151_12)
def t151_13 := b151_13
theorem u151_13 : vcK P t151_13 k e w = vcK P b151_13 k e w := rfl
abbrev b151_14 : X := (.blk 0 (.loop [3] [0] t151_13))
def t151_14 := b151_14
theorem u151_14 : vcK P t151_14 k e w = vcK P b151_14 k e w := rfl
abbrev b151_15 : X := (.seq (.reg [2] (.c (.q 2 [] (.mv (.c (.bool true)))) .nil)) .ret)
def t151_15 := b151_15
theorem u151_15 : vcK P t151_15 k e w = vcK P b151_15 k e w := rfl
abbrev b151_16 : X := (.seq (.seq (.reg [0, 3] (.c (.q 3 [] (.mv (.c (.int .i64 0)))) .nil)) t151_14) t151_15)
def t151_16 := b151_16
theorem u151_16 : vcK P t151_16 k e w = vcK P b151_16 k e w := rfl
abbrev b151_17 : X := (.seq (.seq (.reg [0, 8] (.c (.q 5 [] (.mv (.t 0))) (.c (.q 6 [] (.len (.t 5))) (.c (.e (some 7) [] (.call false 149 [(.t 6), (.c (.int .i64 3)), (.c (.int .i64 8))])) (.c (.q 8 [] (.not (.t 7))) .nil))))) t151_1) t151_16)
def t151_17 := b151_17
theorem u151_17 : vcK P t151_17 k e w = vcK P b151_17 k e w := rfl
abbrev b151_0 : X := (.seq (.reg [0] (.c (.q 2 [] (.mv (.c (.bool false)))) .nil)) t151_17)
def x_sl1Row := b151_0
theorem u151_0 : vcK P x_sl1Row k e w = vcK P b151_0 k e w := rfl
def r_sl1Row : List XO := [(.mv (.t 2))]
theorem c_sl1Row : convF Try.prog [147, 148, 152, 160, 162, 163, 170, 178, 206, 208, 210, 224, 233, 235, 236, 251, 264, 265, 268, 270, 287, 322] Try.f151 [([0], []), ([0, 8], []), ([2], []), ([0, 3], []), ([3], [0]), ([0, 3, 12], []), ([0, 3, 28], []), ([2], []), ([0, 3, 4], []), ([4], [0, 3]), ([0, 3, 4, 31], []), ([0, 3, 4, 40], []), ([2], []), ([0, 3, 4], []), ([0, 3], []), ([2], [])] = some (x_sl1Row, r_sl1Row) := by kernel_rfl
def us_sl1Row :=  (aI (aI (aI (aI @u151_0 @u151_1) (aI @u151_2 @u151_3)) (aI (aI @u151_4 @u151_5) (aI @u151_6 (aI @u151_7 @u151_8)))) (aI (aI (aI @u151_9 @u151_10) (aI @u151_11 @u151_12)) (aI (aI @u151_13 @u151_14) (aI @u151_15 (aI @u151_16 @u151_17)))))
end

theorem iwithin_ok (n lo hi : Int) (w : World) : Fn 334 [.int .i64 n, .int .i64 lo, .int .i64 hi] w (fun v _ => v = .bool (decide (lo ≤ n) && decide (n ≤ hi))) := by
  (refine callsV_of mix Try.func334 c_iwithin ?_; simp only [↓vsd, vsn, gW, qd, qv, ev, pick, argE, zipE, ne_eq, eq_self, forall_const, implies_true, if_true, if_false, reduceIte, reduceCtorEq, Nat.reduceEqDiff, Nat.reduceAdd, Nat.reduceLT, ↓us_iwithin, r_iwithin])
  exact Ext.refl _
theorem sl1In_ok (n lo hi : Int) (w : World) : Fn 149 [.int .i64 n, .int .i64 lo, .int .i64 hi] w (fun v _ => v = .bool (decide (lo ≤ n) && decide (n ≤ hi))) := by
  (refine callsV_of mix Try.func149 c_sl1In ?_; simp only [↓vsd, vsn, gW, qd, qv, ev, pick, argE, zipE, ne_eq, eq_self, forall_const, implies_true, if_true, if_false, reduceIte, reduceCtorEq, Nat.reduceEqDiff, Nat.reduceAdd, Nat.reduceLT, ↓us_sl1In, r_sl1In])
  exact Ext.refl _
theorem iisStage_ok (n : Int) (w : World) : Fn 139 [.int .i64 n] w (fun v _ => v = .bool (decide (3 ≤ n) && decide (n ≤ 8))) := by
  (refine callsV_of mix Try.func139 c_iisStage ?_; simp only [↓vsd, vsn, gW, qd, qv, ev, pick, argE, zipE, ne_eq, eq_self, forall_const, implies_true, if_true, if_false, reduceIte, reduceCtorEq, Nat.reduceEqDiff, Nat.reduceAdd, Nat.reduceLT, ↓us_iisStage, r_iisStage])
  exact Ext.refl _
theorem iGoodRow_ok (l : List UInt8) (w : World) : Fn 141 [S l] w (fun v _ => v = .bool (decide (IsRow l))) := by
  (refine callsV_of mix Try.func141 c_iGoodRow ?_; simp only [↓vsd, vsn, gW, qd, qv, ev, pick, argE, zipE, ne_eq, eq_self, forall_const, implies_true, if_true, if_false, reduceIte, reduceCtorEq, Nat.reduceEqDiff, Nat.reduceAdd, Nat.reduceLT, ↓us_iGoodRow, r_iGoodRow])
  refine m_call (iisStage_ok _ _) ?_
  rintro _ w1 hx rfl
  simp only [↓vsd, vsn, gW, qd, qv, ev, pick, argE, zipE, ne_eq, eq_self, forall_const, implies_true, if_true, if_false, reduceIte, reduceCtorEq, Nat.reduceEqDiff, Nat.reduceAdd, Nat.reduceLT, ↓us_iGoodRow, r_iGoodRow]
  refine ⟨fun h => ⟨hx, ?_⟩, fun h => ?_⟩
  · have : ¬ IsRow l := fun hr => by have := hr.1; omega
    simp [this]
  refine m_loop (fun m vs w' => ∃ k s : Nat, m = l.length - k ∧ k ≤ l.length ∧ s < 256 ∧ vs = [.int .i64 s, .int .i64 k] ∧ RowUp l k ∧ (∀ c < 8, s.testBit c = true ↔ ∃ j < k, (l.getD j 0).toNat = 49 + c) ∧ Ext w w') l.length ?_ ?_
  · exact ⟨0, 0, by omega, by omega, by omega, rfl, RowUp.zero l, by simp, hx⟩
  · rintro m vs w' ⟨k, s, rfl, hk, hs, rfl, hup, hbit, hx'⟩
    simp only [↓vsd, vsn, gW, qd, qv, ev, pick, argE, zipE, ne_eq, eq_self, forall_const, implies_true, if_true, if_false, reduceIte, reduceCtorEq, Nat.reduceEqDiff, Nat.reduceAdd, Nat.reduceLT, ↓us_iGoodRow, r_iGoodRow]
    have hb := (l.getD k 0).toNat_lt
    refine ⟨fun hlt => ⟨⟨by omega, hlt⟩, inR_i64 (by omega), fun h => h.1, fun hbad => ⟨hx', ?_⟩, ?_⟩, fun hge => ⟨hx', ?_⟩⟩
    · have hn : ¬ IsRow l := fun hr => by
        obtain ⟨h1, h2, h3⟩ := hr.2 k (by omega)
        obtain ⟨c, hc⟩ : ∃ c : Nat, (l.getD k 0).toNat = 49 + c := ⟨(l.getD k 0).toNat - 49, by omega⟩
        rw [show ((l.getD k 0).toNat : Int) - 49 = (c : Nat) by omega] at hbad
        rcases hbad with hbad | hbad
        · omega
        · rw [Int.toNat_natCast, bit_and ⟨s, hs⟩ ⟨c, by omega⟩, hbit c (by omega)] at hbad
          obtain ⟨j, hj, he⟩ := hbad
          exact h3 j hj (UInt8.toNat_inj.1 (by omega))
      simp [hn]
    · rintro ⟨⟨h1, h2⟩, h3⟩
      obtain ⟨c, hc⟩ : ∃ c : Nat, (l.getD k 0).toNat = 49 + c := ⟨(l.getD k 0).toNat - 49, by omega⟩
      rw [show ((l.getD k 0).toNat : Int) - 49 = (c : Nat) by omega] at h3 ⊢
      rw [Int.toNat_natCast] at h3 ⊢
      rw [bit_and ⟨s, hs⟩ ⟨c, by omega⟩, hbit c (by omega)] at h3
      refine ⟨by omega, inR_i64 (by omega), _, Nat.lt_of_lt_of_le ?_ (Nat.le_refl _), k + 1, s ||| 2 ^ c, rfl, by omega, bit_lt ⟨s, hs⟩ ⟨c, by omega⟩, ⟨?_, by simp⟩, hup.succ (by omega) (by omega) (fun j hj he => h3 ⟨j, hj, by rw [he]; exact hc⟩), fun d hd => ?_, hx'⟩
      · omega
      · rw [bit_or ⟨s, hs⟩ ⟨c, by omega⟩]
      · rw [bit_test ⟨s, hs⟩ ⟨c, by omega⟩ ⟨d, hd⟩, hbit d hd]
        constructor
        · rintro (⟨j, hj, he⟩ | he)
          · exact ⟨j, by omega, he⟩
          · exact ⟨k, by omega, by rw [hc]; simp only at he; omega⟩
        · rintro ⟨j, hj, he⟩
          by_cases hjk : j = k
          · subst hjk; right; simp only; omega
          · exact Or.inl ⟨j, by omega, he⟩
    · have : IsRow l := ⟨by omega, by rw [show l.length = k by omega]; exact hup⟩
      simp [this]
theorem sl1Row_ok (l : List UInt8) (w : World) : Fn 151 [S l] w (fun v _ => v = .bool (decide (IsRow l))) := by
  (refine callsV_of mix Try.func151 c_sl1Row ?_; simp only [↓vsd, vsn, gW, qd, qv, ev, pick, argE, zipE, ne_eq, eq_self, forall_const, implies_true, if_true, if_false, reduceIte, reduceCtorEq, Nat.reduceEqDiff, Nat.reduceAdd, Nat.reduceLT, ↓us_sl1Row, r_sl1Row])
  refine m_call (sl1In_ok _ _ _ _) ?_
  rintro _ w1 hx rfl
  simp only [↓vsd, vsn, gW, qd, qv, ev, pick, argE, zipE, ne_eq, eq_self, forall_const, implies_true, if_true, if_false, reduceIte, reduceCtorEq, Nat.reduceEqDiff, Nat.reduceAdd, Nat.reduceLT, ↓us_sl1Row, r_sl1Row]
  refine ⟨fun h => ⟨hx, ?_⟩, fun h => ?_⟩
  · have : ¬ IsRow l := fun hr => by have := hr.1; omega
    simp [this]
  refine m_loop (fun m vs w' => ∃ k : Nat, m = l.length - k ∧ k ≤ l.length ∧ vs = [.int .i64 k] ∧ RowUp l k ∧ Ext w w') l.length ?_ ?_
  · exact ⟨0, by omega, by omega, rfl, RowUp.zero l, hx⟩
  · rintro m vs w' ⟨k, rfl, hk, rfl, hup, hx'⟩
    simp only [↓vsd, vsn, gW, qd, qv, ev, pick, argE, zipE, ne_eq, eq_self, forall_const, implies_true, if_true, if_false, reduceIte, reduceCtorEq, Nat.reduceEqDiff, Nat.reduceAdd, Nat.reduceLT, ↓us_sl1Row, r_sl1Row]
    have hb := (l.getD k 0).toNat_lt
    ((repeat' (first | (with_reducible refine And.intro ?_ ?_) | intro _)) <;> (try first | omega | ((with_reducible refine inR_i64 ?_) <;> omega) | ((with_reducible refine inR_u8 ?_) <;> omega) | with_reducible assumption | exact Ext.refl _))
    · have : ¬ IsRow l := fun hr => by
        obtain ⟨h1, h2, h3⟩ := hr.2 k (by omega)
        omega
      simp [this]
    · refine m_loop (fun m vs w' => ∃ j : Nat, m = k - j ∧ j ≤ k ∧ vs = [.int .i64 j] ∧ (∀ i < j, l.getD i 0 ≠ l.getD k 0) ∧ Ext w w') k ?_ ?_
      · exact ⟨0, by omega, by omega, rfl, by simp, hx'⟩
      · rintro m vs w2 ⟨j, rfl, hj, rfl, hne, hx2⟩
        simp only [↓vsd, vsn, gW, qd, qv, ev, pick, argE, zipE, ne_eq, eq_self, forall_const, implies_true, if_true, if_false, reduceIte, reduceCtorEq, Nat.reduceEqDiff, Nat.reduceAdd, Nat.reduceLT, ↓us_sl1Row, r_sl1Row]
        have hc := (l.getD j 0).toNat_lt
        ((repeat' (first | (with_reducible refine And.intro ?_ ?_) | intro _)) <;> (try first | omega | ((with_reducible refine inR_i64 ?_) <;> omega) | ((with_reducible refine inR_u8 ?_) <;> omega) | with_reducible assumption | exact Ext.refl _))
        · rename_i he
          have : ¬ IsRow l := fun hr => by
            obtain ⟨h1, h2, h3⟩ := hr.2 k (by omega)
            exact h3 j (by omega) (UInt8.toNat_inj.1 (by omega))
          simp [this]
        · rename_i he
          exact ⟨_, Nat.lt_of_lt_of_le (show k - (j + 1) < k - j by omega) (Nat.le_refl _), j + 1, rfl, by omega, by simp, fun i hi => by
            by_cases hij : i = j
            · subst hij; intro h; rw [h] at he; exact he rfl
            · exact hne i (by omega), hx2⟩
        · exact ⟨_, Nat.lt_of_lt_of_le (show l.length - (k + 1) < l.length - k by omega) (Nat.le_refl _), k + 1, rfl, by omega, by simp, hup.succ (by omega) (by omega) (fun i hi => hne i (by omega)), hx2⟩
    · have : IsRow l := ⟨by omega, by rw [show l.length = k by omega]; exact hup⟩
      simp [this]
end Go.Proofs.Ytnincmnkdjlndaa
