/-
  Rows by rank; the rows that fit a pattern; the call of the law FnExactRowsThatFit.
  Conditions: none.
-/
import Derived.Test.YtnincmnkdjlndaaA3
import Derived.Test.YtnincmnkdjlndaaA6
import Derived.Test.YtnincmnkdjlndaaPd
set_option linter.unusedSimpArgs false
set_option linter.unusedVariables false
set_option linter.defProp false
namespace Go.Proofs.Ytnincmnkdjlndaa
open Go Go.RowKit
section
variable (P : Program) (k : KT) (e : Env) (w : World)
abbrev b142_1 : X := (.seq (.reg [2] (.c (.q 3 [] (.mv (.t 0))) (.c (.q 4 [] (.sub (.s [49, 50, 51, 52, 53, 54, 55, 56]) none (some (.t 3)))) (.c (.q 2 [] (.mv (.t 4))) .nil)))) .ret)
def t142_1 := b142_1
theorem u142_1 : vcK P t142_1 k e w = vcK P b142_1 k e w := rfl
abbrev b142_0 : X := (.seq (.reg [0] (.c (.q 2 [] (.mv (.s []))) .nil)) t142_1)
def x_irounds := b142_0
theorem u142_0 : vcK P x_irounds k e w = vcK P b142_0 k e w := rfl
def r_irounds : List XO := [(.mv (.t 2))]
theorem c_irounds : convF Try.prog [147, 148, 152, 160, 162, 163, 170, 178, 206, 208, 210, 224, 233, 235, 236, 251, 264, 265, 268, 270, 287, 322] Try.f142 [([0], []), ([2], [])] = some (x_irounds, r_irounds) := by kernel_rfl
def us_irounds :=  (aI @u142_0 @u142_1)
abbrev b260_1 : X := (.seq (.reg [2] (.c (.q 3 [] (.mv (.t 0))) (.c (.q 4 [] (.sub (.s [49, 50, 51, 52, 53, 54, 55, 56]) none (some (.t 3)))) (.c (.q 2 [] (.mv (.t 4))) .nil)))) .ret)
def t260_1 := b260_1
theorem u260_1 : vcK P t260_1 k e w = vcK P b260_1 k e w := rfl
abbrev b260_0 : X := (.seq (.reg [0] (.c (.q 2 [] (.mv (.s []))) .nil)) t260_1)
def x_sl1Rounds := b260_0
theorem u260_0 : vcK P x_sl1Rounds k e w = vcK P b260_0 k e w := rfl
def r_sl1Rounds : List XO := [(.mv (.t 2))]
theorem c_sl1Rounds : convF Try.prog [147, 148, 152, 160, 162, 163, 170, 178, 206, 208, 210, 224, 233, 235, 236, 251, 264, 265, 268, 270, 287, 322] Try.f260 [([0], []), ([2], [])] = some (x_sl1Rounds, r_sl1Rounds) := by kernel_rfl
def us_sl1Rounds :=  (aI @u260_0 @u260_1)
abbrev b279_1 : X := (.cond (.t 7) .skip (.exit 0))
def t279_1 := b279_1
theorem u279_1 : vcK P t279_1 k e w = vcK P b279_1 k e w := rfl
abbrev b279_2 : X := (.reg [0, 3, 4] (.c (.q 8 [] (.mv (.t 4))) (.c (.q 9 [] (.bin .add (.t 8) (.c (.int .i64 1)))) (.c (.q 4 [] (.mv (.t 9))) .nil))))
def t279_2 := b279_2
theorem u279_2 : vcK P t279_2 k e w = vcK P b279_2 k e w := rfl
abbrev b279_3 : X := (.seq (.blk 1 (.reg [0, 3, 4] (.c (.q 10 [] (.mv (.t 3))) (.c (.q 11 [] (.mv (.t 4))) (.c (.q 12 [] (.bin .mul (.t 10) (.t 11))) (.c (.q 3 [] (.mv (.t 12))) .nil)))))) t279_2)
def t279_3 := b279_3
theorem u279_3 : vcK P t279_3 k e w = vcK P b279_3 k e w := rfl
abbrev b279_4 : X := (.seq (.seq (.reg [0, 3, 4, 7] (.c (.q 5 [] (.mv (.t 4))) (.c (.q 6 [] (.mv (.t 0))) (.c (.q 7 [] (.bin .leq (.t 5) (.t 6))) .nil)))) t279_1) t279_3)
def t279_4 := b279_4
theorem u279_4 : vcK P t279_4 k e w = vcK P b279_4 k e w := rfl
abbrev b279_5 : X := (.blk 0 (.loop [3, 4] [0] t279_4))
def t279_5 := b279_5
theorem u279_5 : vcK P t279_5 k e w = vcK P b279_5 k e w := rfl
abbrev b279_6 : X := (.seq (.reg [2] (.c (.q 13 [] (.mv (.t 3))) (.c (.q 2 [] (.mv (.t 13))) .nil))) .ret)
def t279_6 := b279_6
theorem u279_6 : vcK P t279_6 k e w = vcK P b279_6 k e w := rfl
abbrev b279_7 : X := (.seq (.seq (.reg [0, 3, 4] (.c (.q 4 [] (.mv (.c (.int .i64 2)))) .nil)) t279_5) t279_6)
def t279_7 := b279_7
theorem u279_7 : vcK P t279_7 k e w = vcK P b279_7 k e w := rfl
abbrev b279_8 : X := (.seq (.reg [0, 3] (.c (.q 3 [] (.mv (.c (.int .i64 1)))) .nil)) t279_7)
def t279_8 := b279_8
theorem u279_8 : vcK P t279_8 k e w = vcK P b279_8 k e w := rfl
abbrev b279_0 : X := (.seq (.reg [0] (.c (.q 2 [] (.mv (.c (.int .i64 0)))) .nil)) t279_8)
def x_ifactorial := b279_0
theorem u279_0 : vcK P x_ifactorial k e w = vcK P b279_0 k e w := rfl
def r_ifactorial : List XO := [(.mv (.t 2))]
theorem c_ifactorial : convF Try.prog [147, 148, 152, 160, 162, 163, 170, 178, 206, 208, 210, 224, 233, 235, 236, 251, 264, 265, 268, 270, 287, 322] Try.f279 [([0], []), ([0, 3], []), ([0, 3, 4], []), ([3, 4], [0]), ([0, 3, 4, 7], []), ([0, 3, 4], []), ([0, 3, 4], []), ([2], [])] = some (x_ifactorial, r_ifactorial) := by kernel_rfl
def us_ifactorial :=  (aI (aI (aI @u279_0 @u279_1) (aI @u279_2 @u279_3)) (aI (aI @u279_4 @u279_5) (aI @u279_6 (aI @u279_7 @u279_8))))
abbrev b275_1 : X := (.cond (.t 5) .skip (.exit 0))
def t275_1 := b275_1
theorem u275_1 : vcK P t275_1 k e w = vcK P b275_1 k e w := rfl
abbrev b275_2 : X := (.reg [0, 3] (.c (.q 6 [] (.mv (.t 0))) (.c (.q 7 [] (.bin .sub (.t 6) (.c (.int .i64 1)))) (.c (.q 0 [] (.mv (.t 7))) .nil))))
def t275_2 := b275_2
theorem u275_2 : vcK P t275_2 k e w = vcK P b275_2 k e w := rfl
abbrev b275_3 : X := (.seq (.blk 1 (.reg [0, 3] (.c (.q 8 [] (.mv (.t 3))) (.c (.q 9 [] (.mv (.t 0))) (.c (.q 10 [] (.bin .mul (.t 8) (.t 9))) (.c (.q 3 [] (.mv (.t 10))) .nil)))))) t275_2)
def t275_3 := b275_3
theorem u275_3 : vcK P t275_3 k e w = vcK P b275_3 k e w := rfl
abbrev b275_4 : X := (.seq (.seq (.reg [0, 3, 5] (.c (.q 4 [] (.mv (.t 0))) (.c (.q 5 [] (.bin .gtr (.t 4) (.c (.int .i64 1)))) .nil))) t275_1) t275_3)
def t275_4 := b275_4
theorem u275_4 : vcK P t275_4 k e w = vcK P b275_4 k e w := rfl
abbrev b275_5 : X := (.seq (.reg [2] (.c (.q 11 [] (.mv (.t 3))) (.c (.q 2 [] (.mv (.t 11))) .nil))) .ret)
def t275_5 := b275_5
theorem u275_5 : vcK P t275_5 k e w = vcK P b275_5 k e w := rfl
abbrev b275_6 : X := (.seq (.blk 0 (.loop [0, 3] [] t275_4)) t275_5)
def t275_6 := b275_6
theorem u275_6 : vcK P t275_6 k e w = vcK P b275_6 k e w := rfl
abbrev b275_7 : X := (.seq (.reg [0, 3] (.c (.q 3 [] (.mv (.c (.int .i64 1)))) .nil)) t275_6)
def t275_7 := b275_7
theorem u275_7 : vcK P t275_7 k e w = vcK P b275_7 k e w := rfl
abbrev b275_0 : X := (.seq (.reg [0] (.c (.q 2 [] (.mv (.c (.int .i64 0)))) .nil)) t275_7)
def x_sl1Fact := b275_0
theorem u275_0 : vcK P x_sl1Fact k e w = vcK P b275_0 k e w := rfl
def r_sl1Fact : List XO := [(.mv (.t 2))]
theorem c_sl1Fact : convF Try.prog [147, 148, 152, 160, 162, 163, 170, 178, 206, 208, 210, 224, 233, 235, 236, 251, 264, 265, 268, 270, 287, 322] Try.f275 [([0], []), ([0, 3], []), ([0, 3], []), ([0, 3, 5], []), ([0, 3], []), ([0, 3], []), ([2], [])] = some (x_sl1Fact, r_sl1Fact) := by kernel_rfl
def us_sl1Fact :=  (aI (aI (aI @u275_0 @u275_1) (aI @u275_2 @u275_3)) (aI (aI @u275_4 @u275_5) (aI @u275_6 @u275_7)))
abbrev b201_1 : X := (.cond (.t 16) .skip (.exit 0))
def t201_1 := b201_1
theorem u201_1 : vcK P t201_1 k e w = vcK P b201_1 k e w := rfl
abbrev b201_2 : X := (.drw [1, 5, 6, 7] (.c (.q 35 [] (.mv (.t 5))) (.c (.q 36 [] (.mv (.t 9))) (.c (.q 37 [] (.ssl 1 (.t 35) none (some (.t 36)))) (.c (.q 38 [] (.mv (.t 5))) (.c (.q 39 [] (.mv (.t 9))) (.c (.q 40 [] (.bin .add (.t 39) (.c (.int .i64 1)))) (.c (.q 41 [] (.ssl 1 (.t 38) (some (.t 40)) none)) (.c (.e (some 42) [] (.app 22 5 1 1 [(.int .u8 0)] 22 (.t 37) (.t 41))) (.c (.q 5 [] (.mv (.t 42))) .nil))))))))))
def t201_2 := b201_2
theorem u201_2 : vcK P t201_2 k e w = vcK P b201_2 k e w := rfl
abbrev b201_3 : X := (.seq (.reg [1, 5, 6, 7, 9] (.c (.q 28 [] (.mv (.t 6))) (.c (.q 29 [] (.mv (.t 5))) (.c (.q 30 [] (.mv (.t 9))) (.c (.q 31 [] (.ia 1 (.t 29) (.t 30))) (.c (.q 32 [] (.ld (.t 31))) (.c (.e (some 33) [] (.bsl 5 1 [(.t 32)])) (.c (.e (some 34) [] (.app 22 5 1 1 [(.int .u8 0)] 22 (.t 28) (.t 33))) (.c (.q 6 [] (.mv (.t 34))) .nil))))))))) t201_2)
def t201_3 := b201_3
theorem u201_3 : vcK P t201_3 k e w = vcK P b201_3 k e w := rfl
abbrev b201_4 : X := (.seq (.reg [1, 5, 6, 7, 9] (.c (.q 25 [] (.mv (.t 1))) (.c (.q 26 [] (.mv (.t 8))) (.c (.q 27 [] (.bin .rem (.t 25) (.t 26))) (.c (.q 1 [] (.mv (.t 27))) .nil))))) t201_3)
def t201_4 := b201_4
theorem u201_4 : vcK P t201_4 k e w = vcK P b201_4 k e w := rfl
abbrev b201_5 : X := (.seq (.reg [1, 5, 6, 7, 8, 9] (.c (.q 22 [] (.mv (.t 1))) (.c (.q 23 [] (.mv (.t 8))) (.c (.q 24 [] (.bin .quo (.t 22) (.t 23))) (.c (.q 9 [] (.mv (.t 24))) .nil))))) t201_4)
def t201_5 := b201_5
theorem u201_5 : vcK P t201_5 k e w = vcK P b201_5 k e w := rfl
abbrev b201_6 : X := (.reg [1, 5, 6, 7] (.c (.q 17 [] (.mv (.t 7))) (.c (.q 18 [] (.bin .sub (.t 17) (.c (.int .i64 1)))) (.c (.q 7 [] (.mv (.t 18))) .nil))))
def t201_6 := b201_6
theorem u201_6 : vcK P t201_6 k e w = vcK P b201_6 k e w := rfl
abbrev b201_7 : X := (.seq (.blk 1 (.seq (.reg [1, 5, 6, 7, 8] (.c (.q 19 [] (.mv (.t 7))) (.c (.q 20 [] (.bin .sub (.t 19) (.c (.int .i64 1)))) (.c (.e (some 21) [] (.call false 279 [(.t 20)])) (.c (.q 8 [] (.mv (.t 21))) .nil))))) t201_5)) t201_6)
def t201_7 := b201_7
theorem u201_7 : vcK P t201_7 k e w = vcK P b201_7 k e w := rfl
abbrev b201_8 : X := (.seq (.seq (.reg [1, 5, 6, 7, 16] (.c (.q 15 [] (.mv (.t 7))) (.c (.q 16 [] (.bin .gtr (.t 15) (.c (.int .i64 0)))) .nil))) t201_1) t201_7)
def t201_8 := b201_8
theorem u201_8 : vcK P t201_8 k e w = vcK P b201_8 k e w := rfl
abbrev b201_9 : X := (.blk 0 (.loop [1, 5, 6, 7] [] t201_8))
def t201_9 := b201_9
theorem u201_9 : vcK P t201_9 k e w = vcK P b201_9 k e w := rfl
abbrev b201_10 : X := (.seq (.reg [4] (.c (.q 43 [] (.mv (.t 6))) (.c (.e (some 44) [] (.b2s (.t 43))) (.c (.q 4 [] (.mv (.t 44))) .nil)))) .ret)
def t201_10 := b201_10
theorem u201_10 : vcK P t201_10 k e w = vcK P b201_10 k e w := rfl
abbrev b201_11 : X := (.seq (.seq (.reg [1, 5, 6, 7] (.c (.q 14 [] (.mv (.t 0))) (.c (.q 7 [] (.mv (.t 14))) .nil))) t201_9) t201_10)
def t201_11 := b201_11
theorem u201_11 : vcK P t201_11 k e w = vcK P b201_11 k e w := rfl
abbrev b201_12 : X := (.seq (.reg [0, 1, 5, 6] (.c (.e (some 13) [] (.bsl 5 1 [])) (.c (.q 6 [] (.mv (.t 13))) .nil))) t201_11)
def t201_12 := b201_12
theorem u201_12 : vcK P t201_12 k e w = vcK P b201_12 k e w := rfl
abbrev b201_13 : X := (.seq (.reg [0, 1, 5] (.c (.q 10 [] (.mv (.t 0))) (.c (.e (some 11) [] (.call false 142 [(.t 10)])) (.c (.e (some 12) [] (.s2b 5 (.t 11))) (.c (.q 5 [] (.mv (.t 12))) .nil))))) t201_12)
def t201_13 := b201_13
theorem u201_13 : vcK P t201_13 k e w = vcK P b201_13 k e w := rfl
abbrev b201_0 : X := (.seq (.reg [0, 1] (.c (.q 4 [] (.mv (.s []))) .nil)) t201_13)
def x_irowOf := b201_0
theorem u201_0 : vcK P x_irowOf k e w = vcK P b201_0 k e w := rfl
def r_irowOf : List XO := [(.mv (.t 4))]
theorem c_irowOf : convF Try.prog [147, 148, 152, 160, 162, 163, 170, 178, 206, 208, 210, 224, 233, 235, 236, 251, 264, 265, 268, 270, 287, 322] Try.f201 [([0, 1], []), ([0, 1, 5], []), ([0, 1, 5, 6], []), ([1, 5, 6, 7], []), ([1, 5, 6, 7], []), ([1, 5, 6, 7, 16], []), ([1, 5, 6, 7, 8], []), ([1, 5, 6, 7, 8, 9], []), ([1, 5, 6, 7, 9], []), ([1, 5, 6, 7, 9], []), ([1, 5, 6, 7], []), ([1, 5, 6, 7], []), ([4], [])] = some (x_irowOf, r_irowOf) := by kernel_rfl
def us_irowOf :=  (aI (aI (aI @u201_0 (aI @u201_1 @u201_2)) (aI (aI @u201_3 @u201_4) (aI @u201_5 @u201_6))) (aI (aI @u201_7 (aI @u201_8 @u201_9)) (aI (aI @u201_10 @u201_11) (aI @u201_12 @u201_13))))
abbrev b202_1 : X := (.cond (.t 20) (.seq (.reg [4, 5] (.c (.q 4 [] (.mv (.s []))) (.c (.q 5 [] (.mv (.c (.bool false)))) .nil))) .ret) .skip)
def t202_1 := b202_1
theorem u202_1 : vcK P t202_1 k e w = vcK P b202_1 k e w := rfl
abbrev b202_2 : X := (.cond (.t 25) .skip (.exit 0))
def t202_2 := b202_2
theorem u202_2 : vcK P t202_2 k e w = vcK P b202_2 k e w := rfl
abbrev b202_3 : X := (.drw [1, 6, 7] (.c (.q 43 [] (.mv (.t 6))) (.c (.q 44 [] (.mv (.t 9))) (.c (.q 45 [] (.sub (.t 43) none (some (.t 44)))) (.c (.q 46 [] (.mv (.t 6))) (.c (.q 47 [] (.mv (.t 9))) (.c (.q 48 [] (.bin .add (.t 47) (.c (.int .i64 1)))) (.c (.q 49 [] (.sub (.t 46) (some (.t 48)) none)) (.c (.q 50 [] (.bin .add (.t 45) (.t 49))) (.c (.q 6 [] (.mv (.t 50))) .nil))))))))))
def t202_3 := b202_3
theorem u202_3 : vcK P t202_3 k e w = vcK P b202_3 k e w := rfl
abbrev b202_4 : X := (.seq (.reg [1, 6, 7, 9] (.c (.q 36 [] (.mv (.t 7))) (.c (.q 37 [] (.mv (.t 6))) (.c (.q 38 [] (.mv (.t 9))) (.c (.q 39 [] (.mv (.t 9))) (.c (.q 40 [] (.bin .add (.t 39) (.c (.int .i64 1)))) (.c (.q 41 [] (.sub (.t 37) (some (.t 38)) (some (.t 40)))) (.c (.q 42 [] (.bin .add (.t 36) (.t 41))) (.c (.q 7 [] (.mv (.t 42))) .nil))))))))) t202_3)
def t202_4 := b202_4
theorem u202_4 : vcK P t202_4 k e w = vcK P b202_4 k e w := rfl
abbrev b202_5 : X := (.seq (.reg [1, 6, 7, 9] (.c (.q 33 [] (.mv (.t 1))) (.c (.q 34 [] (.mv (.t 8))) (.c (.q 35 [] (.bin .rem (.t 33) (.t 34))) (.c (.q 1 [] (.mv (.t 35))) .nil))))) t202_4)
def t202_5 := b202_5
theorem u202_5 : vcK P t202_5 k e w = vcK P b202_5 k e w := rfl
abbrev b202_6 : X := (.seq (.reg [1, 6, 7, 8, 9] (.c (.q 30 [] (.mv (.t 1))) (.c (.q 31 [] (.mv (.t 8))) (.c (.q 32 [] (.bin .quo (.t 30) (.t 31))) (.c (.q 9 [] (.mv (.t 32))) .nil))))) t202_5)
def t202_6 := b202_6
theorem u202_6 : vcK P t202_6 k e w = vcK P b202_6 k e w := rfl
abbrev b202_7 : X := (.blk 1 (.seq (.reg [1, 6, 7, 8] (.c (.q 26 [] (.mv (.t 6))) (.c (.q 27 [] (.len (.t 26))) (.c (.q 28 [] (.bin .sub (.t 27) (.c (.int .i64 1)))) (.c (.e (some 29) [] (.call false 275 [(.t 28)])) (.c (.q 8 [] (.mv (.t 29))) .nil)))))) t202_6))
def t202_7 := b202_7
theorem u202_7 : vcK P t202_7 k e w = vcK P b202_7 k e w := rfl
abbrev b202_8 : X := (.seq (.seq (.reg [1, 6, 7, 25] (.c (.q 23 [] (.mv (.t 6))) (.c (.q 24 [] (.len (.t 23))) (.c (.q 25 [] (.bin .gtr (.t 24) (.c (.int .i64 0)))) .nil)))) t202_2) t202_7)
def t202_8 := b202_8
theorem u202_8 : vcK P t202_8 k e w = vcK P b202_8 k e w := rfl
abbrev b202_9 : X := (.seq (.reg [4, 5] (.c (.q 51 [] (.mv (.t 7))) (.c (.q 4 [] (.mv (.t 51))) (.c (.q 5 [] (.mv (.c (.bool true)))) .nil)))) .ret)
def t202_9 := b202_9
theorem u202_9 : vcK P t202_9 k e w = vcK P b202_9 k e w := rfl
abbrev b202_10 : X := (.seq (.blk 0 (.loop [1, 6, 7] [] t202_8)) t202_9)
def t202_10 := b202_10
theorem u202_10 : vcK P t202_10 k e w = vcK P b202_10 k e w := rfl
abbrev b202_11 : X := (.seq (.reg [1, 6, 7] (.c (.q 7 [] (.mv (.s []))) .nil)) t202_10)
def t202_11 := b202_11
theorem u202_11 : vcK P t202_11 k e w = vcK P b202_11 k e w := rfl
abbrev b202_12 : X := (.seq (.reg [1, 6] (.c (.q 21 [] (.mv (.t 0))) (.c (.e (some 22) [] (.call false 260 [(.t 21)])) (.c (.q 6 [] (.mv (.t 22))) .nil)))) t202_11)
def t202_12 := b202_12
theorem u202_12 : vcK P t202_12 k e w = vcK P b202_12 k e w := rfl
abbrev b202_13 : X := (.seq (.seq (.reg [0, 1, 20] (.c (.q 10 [] (.mv (.t 0))) (.c (.e (some 11) [] (.call false 149 [(.t 10), (.c (.int .i64 3)), (.c (.int .i64 8))])) (.c (.q 12 [] (.not (.t 11))) (.c (.q 13 [] (.mv (.t 12))) (.c (.q 14 [(13, false)] (.mv (.t 1))) (.c (.q 15 [(13, false)] (.mv (.t 0))) (.c (.e (some 16) [(13, false)] (.call false 275 [(.t 15)])) (.c (.q 17 [(13, false)] (.bin .sub (.t 16) (.c (.int .i64 1)))) (.c (.e (some 18) [(13, false)] (.call false 149 [(.t 14), (.c (.int .i64 0)), (.t 17)])) (.c (.q 19 [(13, false)] (.not (.t 18))) (.c (.q 20 [] (.pick (.t 13) (.c (.bool true)) (.t 19))) .nil)))))))))))) t202_1) t202_12)
def t202_13 := b202_13
theorem u202_13 : vcK P t202_13 k e w = vcK P b202_13 k e w := rfl
abbrev b202_0 : X := (.seq (.reg [0, 1] (.c (.q 4 [] (.mv (.s []))) (.c (.q 5 [] (.mv (.c (.bool false)))) .nil))) t202_13)
def x_sRowOf := b202_0
theorem u202_0 : vcK P x_sRowOf k e w = vcK P b202_0 k e w := rfl
def r_sRowOf : List XO := [(.mv (.t 4)), (.mv (.t 5))]
theorem c_sRowOf : convF Try.prog [147, 148, 152, 160, 162, 163, 170, 178, 206, 208, 210, 224, 233, 235, 236, 251, 264, 265, 268, 270, 287, 322] Try.f202 [([0, 1], []), ([0, 1, 20], []), ([4, 5], []), ([1, 6], []), ([1, 6, 7], []), ([1, 6, 7], []), ([1, 6, 7, 25], []), ([1, 6, 7, 8], []), ([1, 6, 7, 8, 9], []), ([1, 6, 7, 9], []), ([1, 6, 7, 9], []), ([1, 6, 7], []), ([4, 5], [])] = some (x_sRowOf, r_sRowOf) := by kernel_rfl
def us_sRowOf :=  (aI (aI (aI @u202_0 (aI @u202_1 @u202_2)) (aI (aI @u202_3 @u202_4) (aI @u202_5 @u202_6))) (aI (aI @u202_7 (aI @u202_8 @u202_9)) (aI (aI @u202_10 @u202_11) (aI @u202_12 @u202_13))))
end

theorem roundsS : ∀ n < 9, ([49, 50, 51, 52, 53, 54, 55, 56] : List UInt8).take n = roundsL n := by decide
theorem irounds_ok (n : Nat) (hn : n < 9) (w : World) : Fn 142 [.int .i64 n] w (fun v _ => v = S (roundsL n)) := by
  (refine callsV_of mix Try.func142 c_irounds ?_; simp only [↓vsd, vsn, gW, qd, qv, ev, pick, argE, zipE, ne_eq, eq_self, forall_const, implies_true, if_true, if_false, reduceIte, reduceCtorEq, Nat.reduceEqDiff, Nat.reduceAdd, Nat.reduceLT, ↓us_irounds, r_irounds])
  exact ⟨by omega, Ext.refl _, by rw [roundsS n hn]⟩
theorem sl1Rounds_ok (n : Nat) (hn : n < 9) (w : World) : Fn 260 [.int .i64 n] w (fun v _ => v = S (roundsL n)) := by
  (refine callsV_of mix Try.func260 c_sl1Rounds ?_; simp only [↓vsd, vsn, gW, qd, qv, ev, pick, argE, zipE, ne_eq, eq_self, forall_const, implies_true, if_true, if_false, reduceIte, reduceCtorEq, Nat.reduceEqDiff, Nat.reduceAdd, Nat.reduceLT, ↓us_sl1Rounds, r_sl1Rounds])
  exact ⟨by omega, Ext.refl _, by rw [roundsS n hn]⟩
theorem factL_mul (k : Nat) : ((factL (k + 1) : Nat) : Int) * ((k + 2 : Nat) : Int) = (factL (k + 1 + 1) : Nat) := by
  rw [← Int.natCast_mul, Nat.mul_comm]; rfl
theorem ifactorial_ok (n : Nat) (hn : n < 9) (w : World) : Fn 279 [.int .i64 n] w (fun v _ => v = .int .i64 (factL n : Nat)) := by
  (refine callsV_of mix Try.func279 c_ifactorial ?_; simp only [↓vsd, vsn, gW, qd, qv, ev, pick, argE, zipE, ne_eq, eq_self, forall_const, implies_true, if_true, if_false, reduceIte, reduceCtorEq, Nat.reduceEqDiff, Nat.reduceAdd, Nat.reduceLT, ↓us_ifactorial, r_ifactorial])
  refine m_upto (n - 1) (fun k vs w' => vs = [.int .i64 (factL (k + 1) : Nat), .int .i64 (k + 2 : Nat)] ∧ Ext w w') ⟨rfl, Ext.refl _⟩ ?_
  rintro k vs w1 hk ⟨rfl, hx⟩
  simp only [↓vsd, vsn, gW, qd, qv, ev, pick, argE, zipE, ne_eq, eq_self, forall_const, implies_true, if_true, if_false, reduceIte, reduceCtorEq, Nat.reduceEqDiff, Nat.reduceAdd, Nat.reduceLT, ↓us_ifactorial, r_ifactorial]
  rw [factL_mul]
  refine ⟨fun hle => ?_, fun hgt => ⟨hx, ?_⟩⟩
  · have := (factL_le (k + 1 + 1) (by omega)).2
    exact ⟨inR_i64 (by omega), inR_i64 (by omega), UpTo.next (by omega) ⟨rfl, hx⟩⟩
  · rcases Nat.lt_or_ge n 1 with h | h
    · obtain rfl : n = 0 := by omega
      obtain rfl : k = 0 := by omega
      rfl
    · obtain rfl : n = k + 1 := by omega
      rfl
theorem sl1Fact_ok (n : Nat) (hn : n < 9) (w : World) : Fn 275 [.int .i64 n] w (fun v _ => v = .int .i64 (factL n : Nat)) := by
  (refine callsV_of mix Try.func275 c_sl1Fact ?_; simp only [↓vsd, vsn, gW, qd, qv, ev, pick, argE, zipE, ne_eq, eq_self, forall_const, implies_true, if_true, if_false, reduceIte, reduceCtorEq, Nat.reduceEqDiff, Nat.reduceAdd, Nat.reduceLT, ↓us_sl1Fact, r_sl1Fact])
  refine m_upto (n - 1) (fun k vs w' => ∃ m j : Nat, m + k = n ∧ j * factL m = factL n ∧ vs = [.int .i64 m, .int .i64 j] ∧ Ext w w') ⟨n, 1, rfl, Nat.one_mul _, rfl, Ext.refl _⟩ ?_
  rintro k vs w1 hk ⟨m, j, hm, hj, rfl, hx⟩
  simp only [↓vsd, vsn, gW, qd, qv, ev, pick, argE, zipE, ne_eq, eq_self, forall_const, implies_true, if_true, if_false, reduceIte, reduceCtorEq, Nat.reduceEqDiff, Nat.reduceAdd, Nat.reduceLT, ↓us_sl1Fact, r_sl1Fact]
  have hf := (factL_le n hn).2
  refine ⟨fun hle => ?_, fun hgt => ⟨hx, ?_⟩⟩
  · obtain ⟨i, rfl⟩ : ∃ i, m = i + 1 := ⟨m - 1, by omega⟩
    have h2 : j * (i + 1) * factL i = factL n := by rw [Nat.mul_assoc]; exact hj
    have h3 : j * (i + 1) ≤ factL n := by rw [← h2]; exact Nat.le_mul_of_pos_right _ (factL_pos i)
    rw [show (j : Int) * ((i + 1 : Nat) : Int) = (j * (i + 1) : Nat) by rw [Int.natCast_mul]]
    exact ⟨inR_i64 (by omega), inR_i64 (by omega), UpTo.next (by omega) ⟨i, j * (i + 1), by omega, h2, by rw [Int.natCast_add, Int.natCast_one, Int.add_sub_cancel], hx⟩⟩
  · have : factL m = 1 := by
      rcases Nat.lt_or_ge m 1 with h | h
      · obtain rfl : m = 0 := by omega
        rfl
      · obtain rfl : m = 1 := by omega
        rfl
    rw [this, Nat.mul_one] at hj
    rw [hj]
theorem Own.mono {α : Type} {f : α → List Value} {z E B B' : Nat} {w : World} {v : Value} {l : List α} (h : Own f z E B w v l) (hB : B' ≤ B) : Own f z E B' w v l :=
  ⟨h.1, h.2.imp id fun ⟨g, cap, cur, e, hg, hr⟩ => ⟨g, cap, cur, e, Nat.le_trans hB hg, hr⟩⟩
theorem irowOf_ok (n k : Nat) (hn : n < 9) (hk : k < factL n) (w : World) : Fn 201 [.int .i64 n, .int .i64 k] w (fun v _ => v = S (rowGo n (roundsL n) k)) := by
  (refine callsV_of mix Try.func201 c_irowOf ?_; simp only [↓vsd, vsn, gW, qd, qv, ev, pick, argE, zipE, ne_eq, eq_self, forall_const, implies_true, if_true, if_false, reduceIte, reduceCtorEq, Nat.reduceEqDiff, Nat.reduceAdd, Nat.reduceLT, ↓us_irowOf, r_irowOf])
  refine m_call (irounds_ok n hn _) ?_
  rintro _ w1 hx1 rfl
  simp only [↓vsd, vsn, gW, qd, qv, ev, pick, argE, zipE, ne_eq, eq_self, forall_const, implies_true, if_true, if_false, reduceIte, reduceCtorEq, Nat.reduceEqDiff, Nat.reduceAdd, Nat.reduceLT, ↓us_irowOf, r_irowOf]
  refine m_s2bU w1.heap.size (by rw [roundsL_len]; omega) (Nat.le_refl _) ?_
  rintro v2 w2 ho2 hx2 _
  simp only [↓vsd, vsn, gW, qd, qv, ev, pick, argE, zipE, ne_eq, eq_self, forall_const, implies_true, if_true, if_false, reduceIte, reduceCtorEq, Nat.reduceEqDiff, Nat.reduceAdd, Nat.reduceLT, ↓us_irowOf, r_irowOf]
  refine m_bsl (fun _ h => by cases h) ?_
  rintro b w3 hb hblk hx3 hs3
  simp only [↓vsd, vsn, gW, qd, qv, ev, pick, argE, zipE, ne_eq, eq_self, forall_const, implies_true, if_true, if_false, reduceIte, reduceCtorEq, Nat.reduceEqDiff, Nat.reduceAdd, Nat.reduceLT, ↓us_irowOf, r_irowOf]
  have hx13 := (hx1.trans hx2).trans hx3
  refine m_upto n (fun r vs w' => ∃ (i kk : Nat) (v u : Value) (L O : List UInt8), i + r = n ∧ L.length = i ∧ O.length = r ∧ kk < factL i ∧ O ++ rowGo i L kk = rowGo n (roundsL n) k ∧ vs = [.int .i64 kk, v, u, .int .i64 i] ∧ 
    Own fU 1 5 w.heap.size w' v L ∧ Own fU 1 5 w.heap.size w' u O ∧ Apart v u ∧ Ext w w') ⟨n, k, v2, _, roundsL n, [], rfl, roundsL_len n, rfl, hk, rfl, rfl, ((ho2.ext hx3).to rfl).mono hx1.size, Own.empty fU_len hblk (by have := (hx1.trans hx2).size; omega), (Apart.symm (Apart.of_lt ho2 fun c hc => by simp only [Value.ownBlock, Option.some.injEq] at hc; omega)), hx13⟩ ?_
  rintro r vs w4 hr ⟨i, kk, v, u, L, O, hir, hL, hO, hkk, hgo, rfl, hov, hou, hap, hx4⟩
  simp only [↓vsd, vsn, gW, qd, qv, ev, pick, argE, zipE, ne_eq, eq_self, forall_const, implies_true, if_true, if_false, reduceIte, reduceCtorEq, Nat.reduceEqDiff, Nat.reduceAdd, Nat.reduceLT, ↓us_irowOf, r_irowOf]
  cases i with
  | zero =>
    refine ⟨fun h => by omega, fun _ => m_b2s hou.sq ?_⟩
    simp only [↓vsd, vsn, gW, qd, qv, ev, pick, argE, zipE, ne_eq, eq_self, forall_const, implies_true, if_true, if_false, reduceIte, reduceCtorEq, Nat.reduceEqDiff, Nat.reduceAdd, Nat.reduceLT, ↓us_irowOf, r_irowOf]
    exact ⟨hx4, by rw [← hgo]; simp [rowGo]⟩
  | succ i =>
    refine ⟨fun _ => ⟨inR_i64 (by omega), ?_⟩, fun h => by omega⟩
    rw [show ((i + 1 : Nat) : Int) - 1 = (i : Nat) by omega]
    refine m_call (ifactorial_ok i (by omega) _) ?_
    rintro _ w5 hx5 rfl
    have hf := factL_le i (by omega)
    obtain ⟨hat, hmod⟩ := rank_lt i kk hkk
    have hov5 := hov.ext hx5
    have hou5 := hou.ext hx5
    have hx45 := hx4.trans hx5
    have hne : ¬ ((factL i : Nat) : Int) = 0 := by omega
    have hatL : kk / factL i < L.length := by omega
    simp only [↓vsd, vsn, gW, qd, qv, ev, pick, argE, zipE, ne_eq, eq_self, forall_const, implies_true, if_true, if_false, reduceIte, reduceCtorEq, Nat.reduceEqDiff, Nat.reduceAdd, Nat.reduceLT, ↓us_irowOf, r_irowOf, hov5.sq.facts, hov5.sq.at1 0 hatL, hne]
    generalize hq : kk / factL i = q at *
    generalize hqm : kk % factL i = qm at *
    refine ⟨inR_i64 (by omega), by omega, m_bsl (one_el rfl) ?_⟩
    rintro b6 w6 hb6 hblk6 hx6 hs6
    simp only [↓vsd, vsn, gW, qd, qv, ev, pick, argE, zipE, ne_eq, eq_self, forall_const, implies_true, if_true, if_false, reduceIte, reduceCtorEq, Nat.reduceEqDiff, Nat.reduceAdd, Nat.reduceLT, ↓us_irowOf, r_irowOf]
    refine m_app2 (hou5.ext hx6) (Sq.one fU_len hblk6 rfl) fU_one (by decide) (by simp; omega) (by decide) (Nat.le_trans hx45.size hx6.size) ?_
    rintro u7 w7 ho7 hg7 hn7
    have hx7 := (hou5.ext hx6).grown (hx45.trans hx6) (Nat.le_refl _) hg7
    have hov7 := (hov5.ext hx6).keep2 hg7 hap.symm
    have hap7 : Apart v u7 := (hap.symm.next (hov5.ext hx6) hn7).symm
    obtain ⟨hh1, hh2, hh3⟩ := hov7.head .i64 q (by omega)
    obtain ⟨ht1, ht2⟩ := hov7.sq.tail .i64 (q + 1) (by omega)
    simp only [↓vsd, vsn, gW, qd, qv, ev, pick, argE, zipE, ne_eq, eq_self, forall_const, implies_true, if_true, if_false, reduceIte, reduceCtorEq, Nat.reduceEqDiff, Nat.reduceAdd, Nat.reduceLT, ↓us_irowOf, r_irowOf, hov7.sq.facts, hh1]
    have hxd : Ext w7 w7.drew := dr (Ext.refl _)
    refine ⟨inR_i64 (by omega), of_eq_true ht1, m_app2 (hh2.ext hxd) (ht2.ext hxd) fU_one (by decide) (by simp; omega) (by decide) (by have := hx7.size; exact this) ?_⟩
    rintro v8 w8 ho8 hg8 hn8
    rw [hh3] at hg8 hn8
    have hx8 : Ext w w8 := (hov7.ext hxd).grown (hx7.trans hxd) (Nat.le_refl _) hg8
    simp only [↓vsd, vsn, gW, qd, qv, ev, pick, argE, zipE, ne_eq, eq_self, forall_const, implies_true, if_true, if_false, reduceIte, reduceCtorEq, Nat.reduceEqDiff, Nat.reduceAdd, Nat.reduceLT, ↓us_irowOf, r_irowOf]
    refine ⟨inR_i64 (by omega), UpTo.next (by omega) ⟨i, qm, v8, u7, _, _, by omega, ?_, ?_, hmod, ?_, ?_, ho8, (ho7.ext hxd).keep2 hg8 hap7, hap7.next (ho7.ext hxd) hn8, hx8⟩⟩
    · simp; omega
    · simp; omega
    · rw [← hgo, rowGo, hq, hqm]; simp
    · simp
theorem sRowOf_ok (n k : Nat) (hn : 3 ≤ n ∧ n < 9) (hk : k < factL n) (w : World) : Fn 202 [.int .i64 n, .int .i64 k] w (fun v _ => v = .tuple ⟨[S (rowGo n (roundsL n) k), .bool true]⟩) := by
  (refine callsV_of mix Try.func202 c_sRowOf ?_; simp only [↓vsd, vsn, gW, qd, qv, ev, pick, argE, zipE, ne_eq, eq_self, forall_const, implies_true, if_true, if_false, reduceIte, reduceCtorEq, Nat.reduceEqDiff, Nat.reduceAdd, Nat.reduceLT, ↓us_sRowOf, r_sRowOf])
  refine m_call (sl1In_ok _ _ _ _) ?_
  rintro _ w1 hx1 rfl
  have h3 : 3 ≤ (n : Int) := by omega
  have h8 : (n : Int) ≤ 8 := by omega
  have hf := factL_le n hn.2
  simp only [↓vsd, vsn, gW, qd, qv, ev, pick, argE, zipE, ne_eq, eq_self, forall_const, implies_true, if_true, if_false, reduceIte, reduceCtorEq, Nat.reduceEqDiff, Nat.reduceAdd, Nat.reduceLT, ↓us_sRowOf, r_sRowOf, h3, h8]
  refine m_call (sl1Fact_ok n hn.2 _) ?_
  rintro _ w2 hx2 rfl
  simp only [↓vsd, vsn, gW, qd, qv, ev, pick, argE, zipE, ne_eq, eq_self, forall_const, implies_true, if_true, if_false, reduceIte, reduceCtorEq, Nat.reduceEqDiff, Nat.reduceAdd, Nat.reduceLT, ↓us_sRowOf, r_sRowOf]
  refine ⟨inR_i64 (by omega), m_call (sl1In_ok _ _ _ _) ?_⟩
  rintro _ w3 hx3 rfl
  have h0 : 0 ≤ (k : Int) := by omega
  have hk1 : (k : Int) ≤ (factL n : Nat) - 1 := by omega
  simp only [↓vsd, vsn, gW, qd, qv, ev, pick, argE, zipE, ne_eq, eq_self, forall_const, implies_true, if_true, if_false, reduceIte, reduceCtorEq, Nat.reduceEqDiff, Nat.reduceAdd, Nat.reduceLT, ↓us_sRowOf, r_sRowOf, h0, hk1]
  refine m_call (sl1Rounds_ok n hn.2 _) ?_
  rintro _ w4 hx4 rfl
  simp only [↓vsd, vsn, gW, qd, qv, ev, pick, argE, zipE, ne_eq, eq_self, forall_const, implies_true, if_true, if_false, reduceIte, reduceCtorEq, Nat.reduceEqDiff, Nat.reduceAdd, Nat.reduceLT, ↓us_sRowOf, r_sRowOf]
  have hx14 := ((hx1.trans hx2).trans hx3).trans hx4
  refine m_upto n (fun r vs w' => ∃ (i kk : Nat) (L O : List UInt8), i + r = n ∧ L.length = i ∧ O.length = r ∧ kk < factL i ∧ O ++ rowGo i L kk = rowGo n (roundsL n) k ∧ vs = [.int .i64 kk, S L, S O] ∧ Ext w w') ⟨n, k, roundsL n, [], rfl, roundsL_len n, rfl, hk, rfl, rfl, hx14⟩ ?_
  rintro r vs w5 hr ⟨i, kk, L, O, hir, hL, hO, hkk, hgo, rfl, hx5⟩
  simp only [↓vsd, vsn, gW, qd, qv, ev, pick, argE, zipE, ne_eq, eq_self, forall_const, implies_true, if_true, if_false, reduceIte, reduceCtorEq, Nat.reduceEqDiff, Nat.reduceAdd, Nat.reduceLT, ↓us_sRowOf, r_sRowOf, hL]
  cases i with
  | zero =>
    refine ⟨fun h => by omega, fun _ => ⟨hx5, by rw [← hgo]; simp [rowGo]⟩⟩
  | succ i =>
    refine ⟨fun _ => ⟨inR_i64 (by omega), ?_⟩, fun h => by omega⟩
    rw [show ((i + 1 : Nat) : Int) - 1 = (i : Nat) by omega]
    refine m_call (sl1Fact_ok i (by omega) _) ?_
    rintro _ w6 hx6 rfl
    have hfi := factL_le i (by omega)
    obtain ⟨hat, hmod⟩ := rank_lt i kk hkk
    have hne : ¬ ((factL i : Nat) : Int) = 0 := by omega
    simp only [↓vsd, vsn, gW, qd, qv, ev, pick, argE, zipE, ne_eq, eq_self, forall_const, implies_true, if_true, if_false, reduceIte, reduceCtorEq, Nat.reduceEqDiff, Nat.reduceAdd, Nat.reduceLT, ↓us_sRowOf, r_sRowOf, hne]
    generalize hq : kk / factL i = q at *
    generalize hqm : kk % factL i = qm at *
    have e1 : (L.take (q + 1)).drop q = [L.getD q 0] := by
      rw [List.take_add_one, List.drop_append, List.getD_eq_getElem?_getD, List.getElem?_eq_getElem (by omega)]
      simp [Nat.min_eq_left (show q ≤ L.length by omega)]
    rw [e1]
    have hl1 : (L.take q).length ≤ 8 := by simp; omega
    have hl2 : (L.drop (q + 1)).length ≤ 8 := by simp; omega
    refine ⟨inR_i64 (by omega), inR_i64 (by omega), by omega, by simp; omega, by omega, inR_i64 (by omega), by omega, by omega, UpTo.next (by omega) ⟨i, qm, _, _, by omega, ?_, ?_, hmod, ?_, rfl, dr (hx5.trans hx6)⟩⟩
    · simp; omega
    · simp; omega
    · rw [← hgo, rowGo, hq, hqm]; simp
/-- The rows of stage n that fit a pattern, those below rank k. -/
def fitRows (p : List UInt8) (n k : Nat) : List (List UInt8) := ((List.range k).map (rowGo n (roundsL n))).filter (fitsL p)
theorem fitRows_len (p : List UInt8) (n k : Nat) : (fitRows p n k).length ≤ k := by
  unfold fitRows
  refine Nat.le_trans (List.length_filter_le _ _) ?_
  simp
theorem fitRows_succ (p : List UInt8) (n k : Nat) : fitRows p n (k + 1) = fitRows p n k ++ if fitsL p (rowGo n (roundsL n) k) then [rowGo n (roundsL n) k] else [] := by
  unfold fitRows
  rw [List.range_succ, List.map_append, List.filter_append]
  simp only [List.map_cons, List.map_nil, List.filter_cons, List.filter_nil]
/-- What RowsThatFit answers. -/
def fitAll (p : List UInt8) (n : Int) : List (List UInt8) := if IsPat p ∧ 3 ≤ n ∧ n ≤ 6 then fitRows p n.toNat (factL n.toNat) else []
theorem fitAll_len (p : List UInt8) (n : Int) : (fitAll p n).length ≤ 40320 := by
  unfold fitAll
  split
  · have := fitRows_len p n.toNat (factL n.toNat)
    have := factL_le n.toNat (by omega)
    omega
  · simp
end Go.Proofs.Ytnincmnkdjlndaa
