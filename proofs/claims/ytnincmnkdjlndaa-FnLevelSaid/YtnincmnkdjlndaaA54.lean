/-
  The rows that some rows generate, of both sides.
  Conditions: none.
-/
import Derived.Test.YtnincmnkdjlndaaA53
import Derived.Test.YtnincmnkdjlndaaVu
import Derived.Test.YtnincmnkdjlndaaPr
set_option linter.unusedSimpArgs false
set_option linter.unusedVariables false
set_option linter.defProp false
namespace Go.Proofs.Ytnincmnkdjlndaa
open Go Go.RowKit
section
variable (P : Program) (k : KT) (e : Env) (w : World)
abbrev b237_1 : X := (.cond (.t 24) .skip (.exit 0))
def t237_1 := b237_1
theorem u237_1 : vcK P t237_1 k e w = vcK P b237_1 k e w := rfl
abbrev b237_2 : X := (.cond (.t 41) (.exit 3) .skip)
def t237_2 := b237_2
theorem u237_2 : vcK P t237_2 k e w = vcK P b237_2 k e w := rfl
abbrev b237_3 : X := (.cond (.t 45) (.seq (.reg [6, 7] (.c (.q 6 [] (.mv (.c (.slice none 0 0)))) (.c (.q 7 [] (.mv (.c (.bool false)))) .nil))) .ret) .skip)
def t237_3 := b237_3
theorem u237_3 : vcK P t237_3 k e w = vcK P b237_3 k e w := rfl
abbrev b237_4 : X := (.reg [1, 2, 8, 9, 10, 27, 28, 29] (.c (.q 48 [] (.mv (.t 9))) (.c (.q 49 [] (.mv (.t 13))) (.c (.e (some 50) [] (.bsl 9 1 [(.t 49)])) (.c (.e (some 51) [] (.app 24 9 1 16 [(S [])] 24 (.t 48) (.t 50))) (.c (.q 9 [] (.mv (.t 51))) .nil))))))
def t237_4 := b237_4
theorem u237_4 : vcK P t237_4 k e w = vcK P b237_4 k e w := rfl
abbrev b237_5 : X := (.seq (.reg [1, 2, 8, 9, 10, 13, 27, 28, 29] (.c (.q 46 [] (.mv (.t 8))) (.c (.q 47 [] (.mv (.t 13))) (.c (.e none [] (.mup false .string (.t 46) (.t 47) (.c (.bool true)))) .nil)))) t237_4)
def t237_5 := b237_5
theorem u237_5 : vcK P t237_5 k e w = vcK P b237_5 k e w := rfl
abbrev b237_6 : X := (.seq (.seq (.reg [1, 2, 8, 9, 10, 13, 27, 28, 29, 45] (.c (.q 42 [] (.mv (.t 9))) (.c (.q 43 [] (.lens (.t 42))) (.c (.q 44 [] (.mv (.t 2))) (.c (.q 45 [] (.bin .eql (.t 43) (.t 44))) .nil))))) t237_3) t237_5)
def t237_6 := b237_6
theorem u237_6 : vcK P t237_6 k e w = vcK P b237_6 k e w := rfl
abbrev b237_7 : X := (.seq (.seq (.reg [1, 2, 8, 9, 10, 13, 27, 28, 29, 41] (.c (.q 39 [] (.mv (.t 8))) (.c (.q 40 [] (.mv (.t 13))) (.c (.q 41 [] (.mlk false .string (.bool false) (.t 39) (.t 40))) .nil)))) t237_2) t237_6)
def t237_7 := b237_7
theorem u237_7 : vcK P t237_7 k e w = vcK P b237_7 k e w := rfl
abbrev b237_8 : X := (.seq (.reg [1, 2, 8, 9, 10, 13, 27, 28, 29] (.c (.q 33 [] (.mv (.t 9))) (.c (.q 34 [] (.mv (.t 10))) (.c (.q 35 [] (.ia 1 (.t 33) (.t 34))) (.c (.q 36 [] (.ld (.t 35))) (.c (.q 37 [] (.mv (.t 12))) (.c (.e (some 38) [] (.call false 187 [(.t 36), (.t 37)])) (.c (.q 13 [] (.mv (.t 38))) .nil)))))))) t237_7)
def t237_8 := b237_8
theorem u237_8 : vcK P t237_8 k e w = vcK P b237_8 k e w := rfl
abbrev b237_9 : X := (.reg [1, 2, 8, 9, 10, 27, 28, 29] (.c (.q 52 [] (.bin .add (.t 29) (.c (.int .i64 1)))) (.c (.q 29 [] (.mv (.t 52))) .nil)))
def t237_9 := b237_9
theorem u237_9 : vcK P t237_9 k e w = vcK P b237_9 k e w := rfl
abbrev b237_10 : X := (.seq (.blk 3 (.seq (.reg [1, 2, 8, 9, 10, 12, 27, 28, 29] (.c (.q 31 [] (.ia 1 (.t 27) (.t 29))) (.c (.q 32 [] (.ld (.t 31))) (.c (.q 12 [] (.mv (.t 32))) .nil)))) t237_8)) t237_9)
def t237_10 := b237_10
theorem u237_10 : vcK P t237_10 k e w = vcK P b237_10 k e w := rfl
abbrev b237_11 : X := (.seq (.cond (.t 30) .skip (.exit 2)) t237_10)
def t237_11 := b237_11
theorem u237_11 : vcK P t237_11 k e w = vcK P b237_11 k e w := rfl
abbrev b237_12 : X := (.seq (.reg [1, 2, 8, 9, 10, 27, 28, 29, 30] (.c (.q 30 [] (.bin .lss (.t 29) (.t 28))) .nil)) t237_11)
def t237_12 := b237_12
theorem u237_12 : vcK P t237_12 k e w = vcK P b237_12 k e w := rfl
abbrev b237_13 : X := (.blk 2 (.loop [9, 29] [1, 2, 8, 10, 27, 28] t237_12))
def t237_13 := b237_13
theorem u237_13 : vcK P t237_13 k e w = vcK P b237_13 k e w := rfl
abbrev b237_14 : X := (.reg [1, 2, 8, 9, 10] (.c (.q 25 [] (.mv (.t 10))) (.c (.q 26 [] (.bin .add (.t 25) (.c (.int .i64 1)))) (.c (.q 10 [] (.mv (.t 26))) .nil))))
def t237_14 := b237_14
theorem u237_14 : vcK P t237_14 k e w = vcK P b237_14 k e w := rfl
abbrev b237_15 : X := (.seq (.blk 1 (.seq (.reg [1, 2, 8, 9, 10, 27, 28, 29] (.c (.q 27 [] (.mv (.t 1))) (.c (.q 28 [] (.lens (.t 27))) (.c (.q 29 [] (.mv (.c (.int .i64 0)))) .nil)))) t237_13)) t237_14)
def t237_15 := b237_15
theorem u237_15 : vcK P t237_15 k e w = vcK P b237_15 k e w := rfl
abbrev b237_16 : X := (.seq (.seq (.reg [1, 2, 8, 9, 10, 24] (.c (.q 21 [] (.mv (.t 10))) (.c (.q 22 [] (.mv (.t 9))) (.c (.q 23 [] (.lens (.t 22))) (.c (.q 24 [] (.bin .lss (.t 21) (.t 23))) .nil))))) t237_1) t237_15)
def t237_16 := b237_16
theorem u237_16 : vcK P t237_16 k e w = vcK P b237_16 k e w := rfl
abbrev b237_17 : X := (.blk 0 (.loop [9, 10] [1, 2, 8] t237_16))
def t237_17 := b237_17
theorem u237_17 : vcK P t237_17 k e w = vcK P b237_17 k e w := rfl
abbrev b237_18 : X := (.seq (.reg [6, 7] (.c (.q 55 [] (.mv (.t 9))) (.c (.q 6 [] (.mv (.t 55))) (.c (.q 7 [] (.mv (.c (.bool true)))) .nil)))) .ret)
def t237_18 := b237_18
theorem u237_18 : vcK P t237_18 k e w = vcK P b237_18 k e w := rfl
abbrev b237_19 : X := (.seq (.reg [9] (.c (.q 53 [] (.mv (.t 9))) (.c (.e (some 54) [] (.call true 206 [(.t 53)])) .nil))) t237_18)
def t237_19 := b237_19
theorem u237_19 : vcK P t237_19 k e w = vcK P b237_19 k e w := rfl
abbrev b237_20 : X := (.seq (.seq (.reg [1, 2, 8, 9, 10] (.c (.q 10 [] (.mv (.c (.int .i64 0)))) .nil)) t237_17) t237_19)
def t237_20 := b237_20
theorem u237_20 : vcK P t237_20 k e w = vcK P b237_20 k e w := rfl
abbrev b237_21 : X := (.seq (.reg [1, 2, 8, 9] (.c (.q 18 [] (.mv (.t 0))) (.c (.e (some 19) [] (.call false 142 [(.t 18)])) (.c (.e (some 20) [] (.bsl 9 1 [(.t 19)])) (.c (.q 9 [] (.mv (.t 20))) .nil))))) t237_20)
def t237_21 := b237_21
theorem u237_21 : vcK P t237_21 k e w = vcK P b237_21 k e w := rfl
abbrev b237_22 : X := (.seq (.reg [0, 1, 2, 8] (.c (.e (some 14) [] .mkmap) (.c (.q 15 [] (.mv (.t 0))) (.c (.e (some 16) [] (.call false 142 [(.t 15)])) (.c (.e none [] (.mup false .string (.t 14) (.t 16) (.c (.bool true)))) (.c (.q 17 [] (.mv (.t 14))) (.c (.q 8 [] (.mv (.t 17))) .nil))))))) t237_21)
def t237_22 := b237_22
theorem u237_22 : vcK P t237_22 k e w = vcK P b237_22 k e w := rfl
abbrev b237_0 : X := (.seq (.reg [0, 1, 2] (.c (.q 6 [] (.mv (.c (.slice none 0 0)))) (.c (.q 7 [] (.mv (.c (.bool false)))) .nil))) t237_22)
def x_igenerated := b237_0
theorem u237_0 : vcK P x_igenerated k e w = vcK P b237_0 k e w := rfl
def r_igenerated : List XO := [(.mv (.t 6)), (.mv (.t 7))]
theorem c_igenerated : convF Try.prog [147, 148, 152, 160, 162, 163, 170, 178, 206, 208, 210, 224, 233, 235, 236, 251, 264, 265, 268, 270, 287, 322] Try.f237 [([0, 1, 2], []), ([0, 1, 2, 8], []), ([1, 2, 8, 9], []), ([1, 2, 8, 9, 10], []), ([9, 10], [1, 2, 8]), ([1, 2, 8, 9, 10, 24], []), ([1, 2, 8, 9, 10, 27, 28, 29], []), ([9, 29], [1, 2, 8, 10, 27, 28]), ([1, 2, 8, 9, 10, 27, 28, 29, 30], []), ([1, 2, 8, 9, 10, 12, 27, 28, 29], []), ([1, 2, 8, 9, 10, 13, 27, 28, 29], []), ([1, 2, 8, 9, 10, 13, 27, 28, 29, 41], []), ([1, 2, 8, 9, 10, 13, 27, 28, 29, 45], []), ([6, 7], []), ([1, 2, 8, 9, 10, 13, 27, 28, 29], []), ([1, 2, 8, 9, 10, 27, 28, 29], []), ([1, 2, 8, 9, 10, 27, 28, 29], []), ([1, 2, 8, 9, 10], []), ([9], []), ([6, 7], [])] = some (x_igenerated, r_igenerated) := by kernel_rfl
def us_igenerated :=  (aI (aI (aI (aI @u237_0 @u237_1) (aI @u237_2 (aI @u237_3 @u237_4))) (aI (aI @u237_5 (aI @u237_6 @u237_7)) (aI @u237_8 (aI @u237_9 @u237_10)))) (aI (aI (aI @u237_11 (aI @u237_12 @u237_13)) (aI @u237_14 (aI @u237_15 @u237_16))) (aI (aI @u237_17 (aI @u237_18 @u237_19)) (aI @u237_20 (aI @u237_21 @u237_22)))))
abbrev b278_1 : X := (.cond (.t 10) .skip (.exit 0))
def t278_1 := b278_1
theorem u278_1 : vcK P t278_1 k e w = vcK P b278_1 k e w := rfl
abbrev b278_2 : X := (.cond (.t 18) .skip (.exit 2))
def t278_2 := b278_2
theorem u278_2 : vcK P t278_2 k e w = vcK P b278_2 k e w := rfl
abbrev b278_3 : X := (.cond (.t 27) (.reg [0, 3, 4, 5, 6] (.c (.q 28 [] (.mv (.t 5))) (.c (.q 29 [] (.bin .add (.t 28) (.c (.int .i64 1)))) (.c (.q 5 [] (.mv (.t 29))) .nil)))) .skip)
def t278_3 := b278_3
theorem u278_3 : vcK P t278_3 k e w = vcK P b278_3 k e w := rfl
abbrev b278_4 : X := (.reg [0, 3, 4, 5, 6] (.c (.q 19 [] (.mv (.t 6))) (.c (.q 20 [] (.bin .add (.t 19) (.c (.int .i64 1)))) (.c (.q 6 [] (.mv (.t 20))) .nil))))
def t278_4 := b278_4
theorem u278_4 : vcK P t278_4 k e w = vcK P b278_4 k e w := rfl
abbrev b278_5 : X := (.seq (.blk 3 (.seq (.drw [0, 3, 4, 5, 6, 27] (.c (.q 21 [] (.mv (.t 0))) (.c (.q 22 [] (.mv (.t 6))) (.c (.q 23 [] (.idx (.t 21) (.t 22))) (.c (.q 24 [] (.mv (.t 0))) (.c (.q 25 [] (.mv (.t 4))) (.c (.q 26 [] (.idx (.t 24) (.t 25))) (.c (.q 27 [] (.bin .lss (.t 23) (.t 26))) .nil)))))))) t278_3)) t278_4)
def t278_5 := b278_5
theorem u278_5 : vcK P t278_5 k e w = vcK P b278_5 k e w := rfl
abbrev b278_6 : X := (.seq (.seq (.reg [0, 3, 4, 5, 6, 18] (.c (.q 15 [] (.mv (.t 6))) (.c (.q 16 [] (.mv (.t 0))) (.c (.q 17 [] (.len (.t 16))) (.c (.q 18 [] (.bin .lss (.t 15) (.t 17))) .nil))))) t278_2) t278_5)
def t278_6 := b278_6
theorem u278_6 : vcK P t278_6 k e w = vcK P b278_6 k e w := rfl
abbrev b278_7 : X := (.blk 2 (.loop [5, 6] [0, 3, 4] t278_6))
def t278_7 := b278_7
theorem u278_7 : vcK P t278_7 k e w = vcK P b278_7 k e w := rfl
abbrev b278_8 : X := (.reg [0, 3, 4] (.c (.q 30 [] (.mv (.t 3))) (.c (.q 31 [] (.mv (.t 0))) (.c (.q 32 [] (.len (.t 31))) (.c (.q 33 [] (.mv (.t 4))) (.c (.q 34 [] (.bin .sub (.t 32) (.t 33))) (.c (.q 35 [] (.bin .mul (.t 30) (.t 34))) (.c (.q 36 [] (.mv (.t 5))) (.c (.q 37 [] (.bin .add (.t 35) (.t 36))) (.c (.q 3 [] (.mv (.t 37))) .nil))))))))))
def t278_8 := b278_8
theorem u278_8 : vcK P t278_8 k e w = vcK P b278_8 k e w := rfl
abbrev b278_9 : X := (.seq (.seq (.reg [0, 3, 4, 5, 6] (.c (.q 13 [] (.mv (.t 4))) (.c (.q 14 [] (.bin .add (.t 13) (.c (.int .i64 1)))) (.c (.q 6 [] (.mv (.t 14))) .nil)))) t278_7) t278_8)
def t278_9 := b278_9
theorem u278_9 : vcK P t278_9 k e w = vcK P b278_9 k e w := rfl
abbrev b278_10 : X := (.reg [0, 3, 4] (.c (.q 11 [] (.mv (.t 4))) (.c (.q 12 [] (.bin .add (.t 11) (.c (.int .i64 1)))) (.c (.q 4 [] (.mv (.t 12))) .nil))))
def t278_10 := b278_10
theorem u278_10 : vcK P t278_10 k e w = vcK P b278_10 k e w := rfl
abbrev b278_11 : X := (.seq (.blk 1 (.seq (.reg [0, 3, 4, 5] (.c (.q 5 [] (.mv (.c (.int .i64 0)))) .nil)) t278_9)) t278_10)
def t278_11 := b278_11
theorem u278_11 : vcK P t278_11 k e w = vcK P b278_11 k e w := rfl
abbrev b278_12 : X := (.seq (.seq (.reg [0, 3, 4, 10] (.c (.q 7 [] (.mv (.t 4))) (.c (.q 8 [] (.mv (.t 0))) (.c (.q 9 [] (.len (.t 8))) (.c (.q 10 [] (.bin .lss (.t 7) (.t 9))) .nil))))) t278_1) t278_11)
def t278_12 := b278_12
theorem u278_12 : vcK P t278_12 k e w = vcK P b278_12 k e w := rfl
abbrev b278_13 : X := (.blk 0 (.loop [3, 4] [0] t278_12))
def t278_13 := b278_13
theorem u278_13 : vcK P t278_13 k e w = vcK P b278_13 k e w := rfl
abbrev b278_14 : X := (.seq (.reg [2] (.c (.q 38 [] (.mv (.t 3))) (.c (.q 2 [] (.mv (.t 38))) .nil))) .ret)
def t278_14 := b278_14
theorem u278_14 : vcK P t278_14 k e w = vcK P b278_14 k e w := rfl
abbrev b278_15 : X := (.seq (.seq (.reg [0, 3, 4] (.c (.q 4 [] (.mv (.c (.int .i64 0)))) .nil)) t278_13) t278_14)
def t278_15 := b278_15
theorem u278_15 : vcK P t278_15 k e w = vcK P b278_15 k e w := rfl
abbrev b278_16 : X := (.seq (.reg [0, 3] (.c (.q 3 [] (.mv (.c (.int .i64 0)))) .nil)) t278_15)
def t278_16 := b278_16
theorem u278_16 : vcK P t278_16 k e w = vcK P b278_16 k e w := rfl
abbrev b278_0 : X := (.seq (.reg [0] (.c (.q 2 [] (.mv (.c (.int .i64 0)))) .nil)) t278_16)
def x_sl1Place := b278_0
theorem u278_0 : vcK P x_sl1Place k e w = vcK P b278_0 k e w := rfl
def r_sl1Place : List XO := [(.mv (.t 2))]
theorem c_sl1Place : convF Try.prog [147, 148, 152, 160, 162, 163, 170, 178, 206, 208, 210, 224, 233, 235, 236, 251, 264, 265, 268, 270, 287, 322] Try.f278 [([0], []), ([0, 3], []), ([0, 3, 4], []), ([3, 4], [0]), ([0, 3, 4, 10], []), ([0, 3, 4, 5], []), ([0, 3, 4, 5, 6], []), ([5, 6], [0, 3, 4]), ([0, 3, 4, 5, 6, 18], []), ([0, 3, 4, 5, 6, 27], []), ([0, 3, 4, 5, 6], []), ([0, 3, 4, 5, 6], []), ([0, 3, 4], []), ([0, 3, 4], []), ([2], [])] = some (x_sl1Place, r_sl1Place) := by kernel_rfl
def us_sl1Place :=  (aI (aI (aI (aI @u278_0 @u278_1) (aI @u278_2 @u278_3)) (aI (aI @u278_4 @u278_5) (aI @u278_6 @u278_7))) (aI (aI (aI @u278_8 @u278_9) (aI @u278_10 @u278_11)) (aI (aI @u278_12 @u278_13) (aI @u278_14 (aI @u278_15 @u278_16)))))
abbrev b277_1 : X := (.seq (.reg [2] (.c (.q 3 [] (.mv (.t 0))) (.c (.e (some 4) [] (.call false 275 [(.t 3)])) (.c (.e (some 5) [] (.msl 174 4 1 1 [(.bool false)] (.t 4) (.t 4))) (.c (.q 2 [] (.mv (.t 5))) .nil))))) .ret)
def t277_1 := b277_1
theorem u277_1 : vcK P t277_1 k e w = vcK P b277_1 k e w := rfl
abbrev b277_0 : X := (.seq (.reg [0] (.c (.q 2 [] (.mv (.c (.slice none 0 0)))) .nil)) t277_1)
def x_sl6Seen := b277_0
theorem u277_0 : vcK P x_sl6Seen k e w = vcK P b277_0 k e w := rfl
def r_sl6Seen : List XO := [(.mv (.t 2))]
theorem c_sl6Seen : convF Try.prog [147, 148, 152, 160, 162, 163, 170, 178, 206, 208, 210, 224, 233, 235, 236, 251, 264, 265, 268, 270, 287, 322] Try.f277 [([0], []), ([2], [])] = some (x_sl6Seen, r_sl6Seen) := by kernel_rfl
def us_sl6Seen :=  (aI @u277_0 @u277_1)
abbrev b194_1 : X := (.cond (.t 28) .skip (.exit 0))
def t194_1 := b194_1
theorem u194_1 : vcK P t194_1 k e w = vcK P b194_1 k e w := rfl
abbrev b194_2 : X := (.reg [0, 5, 6, 7, 31, 32, 33] (.c (.q 53 [] (.mv (.t 6))) (.c (.q 54 [] (.mv (.t 10))) (.c (.e (some 55) [] (.bsl 9 1 [(.t 54)])) (.c (.e (some 56) [] (.app 24 9 1 16 [(S [])] 24 (.t 53) (.t 55))) (.c (.q 6 [] (.mv (.t 56))) .nil))))))
def t194_2 := b194_2
theorem u194_2 : vcK P t194_2 k e w = vcK P b194_2 k e w := rfl
abbrev b194_3 : X := (.cond (.t 48) (.seq (.reg [0, 5, 6, 7, 10, 31, 32, 33] (.c (.q 49 [] (.mv (.t 5))) (.c (.q 50 [] (.mv (.t 10))) (.c (.e (some 51) [] (.call false 278 [(.t 50)])) (.c (.q 52 [] (.ia 1 (.t 49) (.t 51))) (.c (.e none [] (.st 1 (.t 52) (.c (.bool true)))) .nil)))))) t194_2) .skip)
def t194_3 := b194_3
theorem u194_3 : vcK P t194_3 k e w = vcK P b194_3 k e w := rfl
abbrev b194_4 : X := (.seq (.reg [0, 5, 6, 7, 10, 31, 32, 33, 48] (.c (.q 43 [] (.mv (.t 5))) (.c (.q 44 [] (.mv (.t 10))) (.c (.e (some 45) [] (.call false 278 [(.t 44)])) (.c (.q 46 [] (.ia 1 (.t 43) (.t 45))) (.c (.q 47 [] (.ld (.t 46))) (.c (.q 48 [] (.not (.t 47))) .nil))))))) t194_3)
def t194_4 := b194_4
theorem u194_4 : vcK P t194_4 k e w = vcK P b194_4 k e w := rfl
abbrev b194_5 : X := (.seq (.reg [0, 5, 6, 7, 10, 31, 32, 33] (.c (.q 37 [] (.mv (.t 6))) (.c (.q 38 [] (.mv (.t 7))) (.c (.q 39 [] (.ia 1 (.t 37) (.t 38))) (.c (.q 40 [] (.ld (.t 39))) (.c (.q 41 [] (.mv (.t 9))) (.c (.e (some 42) [] (.call false 222 [(.t 40), (.t 41)])) (.c (.q 10 [] (.mv (.t 42))) .nil)))))))) t194_4)
def t194_5 := b194_5
theorem u194_5 : vcK P t194_5 k e w = vcK P b194_5 k e w := rfl
abbrev b194_6 : X := (.reg [0, 5, 6, 7, 31, 32, 33] (.c (.q 57 [] (.bin .add (.t 33) (.c (.int .i64 1)))) (.c (.q 33 [] (.mv (.t 57))) .nil)))
def t194_6 := b194_6
theorem u194_6 : vcK P t194_6 k e w = vcK P b194_6 k e w := rfl
abbrev b194_7 : X := (.seq (.blk 3 (.seq (.reg [0, 5, 6, 7, 9, 31, 32, 33] (.c (.q 35 [] (.ia 1 (.t 31) (.t 33))) (.c (.q 36 [] (.ld (.t 35))) (.c (.q 9 [] (.mv (.t 36))) .nil)))) t194_5)) t194_6)
def t194_7 := b194_7
theorem u194_7 : vcK P t194_7 k e w = vcK P b194_7 k e w := rfl
abbrev b194_8 : X := (.seq (.cond (.t 34) .skip (.exit 2)) t194_7)
def t194_8 := b194_8
theorem u194_8 : vcK P t194_8 k e w = vcK P b194_8 k e w := rfl
abbrev b194_9 : X := (.seq (.reg [0, 5, 6, 7, 31, 32, 33, 34] (.c (.q 34 [] (.bin .lss (.t 33) (.t 32))) .nil)) t194_8)
def t194_9 := b194_9
theorem u194_9 : vcK P t194_9 k e w = vcK P b194_9 k e w := rfl
abbrev b194_10 : X := (.blk 2 (.loop [6, 33] [0, 5, 7, 31, 32] t194_9))
def t194_10 := b194_10
theorem u194_10 : vcK P t194_10 k e w = vcK P b194_10 k e w := rfl
abbrev b194_11 : X := (.cond (.t 60) (.seq (.reg [2, 3] (.c (.q 2 [] (.mv (.c (.slice none 0 0)))) (.c (.q 3 [] (.mv (.c (.bool false)))) .nil))) .ret) .skip)
def t194_11 := b194_11
theorem u194_11 : vcK P t194_11 k e w = vcK P b194_11 k e w := rfl
abbrev b194_12 : X := (.seq (.reg [0, 5, 6, 7, 60] (.c (.q 58 [] (.mv (.t 6))) (.c (.q 59 [] (.lens (.t 58))) (.c (.q 60 [] (.bin .gtr (.t 59) (.c (.int .i64 800)))) .nil)))) t194_11)
def t194_12 := b194_12
theorem u194_12 : vcK P t194_12 k e w = vcK P b194_12 k e w := rfl
abbrev b194_13 : X := (.reg [0, 5, 6, 7] (.c (.q 29 [] (.mv (.t 7))) (.c (.q 30 [] (.bin .add (.t 29) (.c (.int .i64 1)))) (.c (.q 7 [] (.mv (.t 30))) .nil))))
def t194_13 := b194_13
theorem u194_13 : vcK P t194_13 k e w = vcK P b194_13 k e w := rfl
abbrev b194_14 : X := (.seq (.blk 1 (.seq (.seq (.reg [0, 5, 6, 7, 31, 32, 33] (.c (.q 31 [] (.mv (.t 0))) (.c (.q 32 [] (.lens (.t 31))) (.c (.q 33 [] (.mv (.c (.int .i64 0)))) .nil)))) t194_10) t194_12)) t194_13)
def t194_14 := b194_14
theorem u194_14 : vcK P t194_14 k e w = vcK P b194_14 k e w := rfl
abbrev b194_15 : X := (.seq (.seq (.reg [0, 5, 6, 7, 28] (.c (.q 25 [] (.mv (.t 7))) (.c (.q 26 [] (.mv (.t 6))) (.c (.q 27 [] (.lens (.t 26))) (.c (.q 28 [] (.bin .lss (.t 25) (.t 27))) .nil))))) t194_1) t194_14)
def t194_15 := b194_15
theorem u194_15 : vcK P t194_15 k e w = vcK P b194_15 k e w := rfl
abbrev b194_16 : X := (.blk 0 (.loop [6, 7] [0, 5] t194_15))
def t194_16 := b194_16
theorem u194_16 : vcK P t194_16 k e w = vcK P b194_16 k e w := rfl
abbrev b194_17 : X := (.seq (.reg [2, 3] (.c (.q 61 [] (.mv (.t 6))) (.c (.e (some 62) [] (.call false 230 [(.t 61)])) (.c (.q 2 [] (.mv (.t 62))) (.c (.q 3 [] (.mv (.c (.bool true)))) .nil))))) .ret)
def t194_17 := b194_17
theorem u194_17 : vcK P t194_17 k e w = vcK P b194_17 k e w := rfl
abbrev b194_18 : X := (.seq (.seq (.reg [0, 5, 6, 7] (.c (.q 7 [] (.mv (.c (.int .i64 0)))) .nil)) t194_16) t194_17)
def t194_18 := b194_18
theorem u194_18 : vcK P t194_18 k e w = vcK P b194_18 k e w := rfl
abbrev b194_19 : X := (.seq (.reg [0, 5, 6] (.c (.q 23 [] (.mv (.t 4))) (.c (.e (some 24) [] (.bsl 9 1 [(.t 23)])) (.c (.q 6 [] (.mv (.t 24))) .nil)))) t194_18)
def t194_19 := b194_19
theorem u194_19 : vcK P t194_19 k e w = vcK P b194_19 k e w := rfl
abbrev b194_20 : X := (.seq (.reg [0, 4, 5] (.c (.q 19 [] (.mv (.t 5))) (.c (.q 20 [] (.mv (.t 4))) (.c (.e (some 21) [] (.call false 278 [(.t 20)])) (.c (.q 22 [] (.ia 1 (.t 19) (.t 21))) (.c (.e none [] (.st 1 (.t 22) (.c (.bool true)))) .nil)))))) t194_19)
def t194_20 := b194_20
theorem u194_20 : vcK P t194_20 k e w = vcK P b194_20 k e w := rfl
abbrev b194_21 : X := (.seq (.reg [0, 4, 5] (.c (.q 16 [] (.mv (.t 4))) (.c (.q 17 [] (.len (.t 16))) (.c (.e (some 18) [] (.call false 277 [(.t 17)])) (.c (.q 5 [] (.mv (.t 18))) .nil))))) t194_20)
def t194_21 := b194_21
theorem u194_21 : vcK P t194_21 k e w = vcK P b194_21 k e w := rfl
abbrev b194_22 : X := (.seq (.reg [0, 4] (.c (.q 11 [] (.mv (.t 0))) (.c (.q 12 [] (.ia 1 (.t 11) (.c (.int .i64 0)))) (.c (.q 13 [] (.ld (.t 12))) (.c (.q 14 [] (.len (.t 13))) (.c (.e (some 15) [] (.call false 260 [(.t 14)])) (.c (.q 4 [] (.mv (.t 15))) .nil))))))) t194_21)
def t194_22 := b194_22
theorem u194_22 : vcK P t194_22 k e w = vcK P b194_22 k e w := rfl
abbrev b194_0 : X := (.seq (.reg [0] (.c (.q 2 [] (.mv (.c (.slice none 0 0)))) (.c (.q 3 [] (.mv (.c (.bool false)))) .nil))) t194_22)
def x_sl6Close := b194_0
theorem u194_0 : vcK P x_sl6Close k e w = vcK P b194_0 k e w := rfl
def r_sl6Close : List XO := [(.mv (.t 2)), (.mv (.t 3))]
theorem c_sl6Close : convF Try.prog [147, 148, 152, 160, 162, 163, 170, 178, 206, 208, 210, 224, 233, 235, 236, 251, 264, 265, 268, 270, 287, 322] Try.f194 [([0], []), ([0, 4], []), ([0, 4, 5], []), ([0, 4, 5], []), ([0, 5, 6], []), ([0, 5, 6, 7], []), ([6, 7], [0, 5]), ([0, 5, 6, 7, 28], []), ([0, 5, 6, 7, 31, 32, 33], []), ([6, 33], [0, 5, 7, 31, 32]), ([0, 5, 6, 7, 31, 32, 33, 34], []), ([0, 5, 6, 7, 9, 31, 32, 33], []), ([0, 5, 6, 7, 10, 31, 32, 33], []), ([0, 5, 6, 7, 10, 31, 32, 33, 48], []), ([0, 5, 6, 7, 10, 31, 32, 33], []), ([0, 5, 6, 7, 31, 32, 33], []), ([0, 5, 6, 7, 31, 32, 33], []), ([0, 5, 6, 7, 60], []), ([2, 3], []), ([0, 5, 6, 7], []), ([2, 3], [])] = some (x_sl6Close, r_sl6Close) := by kernel_rfl
def us_sl6Close :=  (aI (aI (aI (aI @u194_0 @u194_1) (aI @u194_2 (aI @u194_3 @u194_4))) (aI (aI @u194_5 (aI @u194_6 @u194_7)) (aI @u194_8 (aI @u194_9 @u194_10)))) (aI (aI (aI @u194_11 (aI @u194_12 @u194_13)) (aI @u194_14 (aI @u194_15 @u194_16))) (aI (aI @u194_17 (aI @u194_18 @u194_19)) (aI @u194_20 (aI @u194_21 @u194_22)))))
end

theorem drop_consB (l : List UInt8) (i : Nat) (h : i < l.length) : l.drop i = l.getD i 0 :: l.drop (i + 1) := by
  rw [List.drop_eq_getElem_cons h, List.getD_eq_getElem?_getD, List.getElem?_eq_getElem h]; rfl
theorem sl1Place_ok (l : List UInt8) (hl : l.length < 9) (w : World) : Fn 278 [S l] w (fun r _ => r = .int .i64 (rankL l : Nat)) := by
  (refine callsV_of mix Try.func278 c_sl1Place ?_; simp only [↓vsd, vsn, gW, qd, qv, ev, pick, argE, zipE, ne_eq, eq_self, forall_const, implies_true, if_true, if_false, reduceIte, reduceCtorEq, Nat.reduceEqDiff, Nat.reduceAdd, Nat.reduceLT, ↓us_sl1Place, r_sl1Place])
  have hr := rankL_lt l
  have hf := factL_le l.length hl
  refine m_upto l.length (fun i vs w' => ∃ q : Nat, vs = [.int .i64 q, .int .i64 i] ∧ q * factL (l.length - i) + rankL (l.drop i) = rankL l ∧ Ext w w') ⟨0, rfl, by simp, Ext.refl _⟩ ?_
  rintro i vs w1 hi ⟨q, rfl, hq, hx1⟩
  by_cases hlt : i < l.length
  · have hltI : (i : Int) < l.length := by omega
    have hltJ : ¬ (l.length : Int) ≤ i := by omega
    have hql : q ≤ rankL l := by
      have := Nat.le_mul_of_pos_right q (factL_pos (l.length - i))
      omega
    simp only [↓vsd, vsn, gW, qd, qv, ev, pick, argE, zipE, ne_eq, eq_self, forall_const, implies_true, if_true, if_false, reduceIte, reduceCtorEq, Nat.reduceEqDiff, Nat.reduceAdd, Nat.reduceLT, ↓us_sl1Place, r_sl1Place, hltI, hltJ]
    refine ⟨inR_i64 (by omega), ?_⟩
    refine m_upto (l.length - (i + 1)) (fun j vs w' => ∃ q2 : Nat, vs = [.int .i64 q2, .int .i64 (i + 1 + j : Nat)] ∧ q2 + ((l.drop (i + 1 + j)).filter fun y => decide (y.toNat < (l.getD i 0).toNat)).length = ((l.drop (i + 1)).filter fun y => decide (y.toNat < (l.getD i 0).toNat)).length ∧ Ext w w') ⟨0, rfl, by simp, hx1⟩ ?_
    rintro j vs w2 hj ⟨q2, rfl, hq2, hx2⟩
    have hle : ((l.drop (i + 1)).filter fun y => decide (y.toNat < (l.getD i 0).toNat)).length ≤ 8 := by
      have := List.length_filter_le (fun y : UInt8 => decide (y.toNat < (l.getD i 0).toNat)) (l.drop (i + 1))
      rw [List.length_drop] at this; omega
    by_cases hlj : i + 1 + j < l.length
    · have hljI : ((i + 1 + j : Nat) : Int) < l.length := by omega
      have hljJ : ¬ (l.length : Int) ≤ (i + 1 + j : Nat) := by omega
      rw [drop_consB l _ hlj, List.filter_cons] at hq2
      simp only [↓vsd, vsn, gW, qd, qv, ev, pick, argE, zipE, ne_eq, eq_self, forall_const, implies_true, if_true, if_false, reduceIte, reduceCtorEq, Nat.reduceEqDiff, Nat.reduceAdd, Nat.reduceLT, ↓us_sl1Place, r_sl1Place, hljI, hljJ]
      refine ⟨by omega, by omega, fun hlo => ⟨inR_i64 (by omega), inR_i64 (by omega), UpTo.next (by omega) ⟨q2 + 1, by first | rfl | (simp; omega), ?_, by first | exact hx2 | exact dr hx2⟩⟩, fun hhi => ⟨inR_i64 (by omega), UpTo.next (by omega) ⟨q2, by first | rfl | (simp; omega), ?_, by first | exact hx2 | exact dr hx2⟩⟩⟩
      · rw [if_pos (decide_eq_true (by omega)), List.length_cons] at hq2
        rw [← hq2, show i + 1 + (j + 1) = i + 1 + j + 1 by omega]; omega
      · rw [if_neg (by rw [decide_eq_false (by omega)]; exact Bool.false_ne_true)] at hq2
        rw [← hq2, show i + 1 + (j + 1) = i + 1 + j + 1 by omega]
    · have hljI : ¬ ((i + 1 + j : Nat) : Int) < l.length := by omega
      have hd : l.drop (i + 1 + j) = [] := List.drop_eq_nil_of_le (by omega)
      rw [hd] at hq2
      simp only [List.filter_nil, List.length_nil, Nat.add_zero] at hq2
      have eI : (l.length : Int) - (i : Nat) = (l.length - i : Nat) := by omega
      have hq8 : q * (l.length - i) ≤ 40320 * 8 := Nat.mul_le_mul (by omega) (by omega)
      have eM : (q : Int) * ((l.length - i : Nat) : Int) = (q * (l.length - i) : Nat) := (Int.natCast_mul _ _).symm
      simp only [↓vsd, vsn, gW, qd, qv, ev, pick, argE, zipE, ne_eq, eq_self, forall_const, implies_true, if_true, if_false, reduceIte, reduceCtorEq, Nat.reduceEqDiff, Nat.reduceAdd, Nat.reduceLT, ↓us_sl1Place, r_sl1Place, hljI, eI, eM]
      refine ⟨inR_i64 (by omega), inR_i64 (by omega), inR_i64 (by omega), inR_i64 (by omega), UpTo.next hlt ⟨q * (l.length - i) + q2, by first | rfl | (simp; omega), ?_, by first | exact hx2 | exact dr hx2⟩⟩
      rw [drop_consB l i hlt, rankL, List.length_drop, ← hq2] at hq
      obtain ⟨m, hm⟩ : ∃ m, l.length - i = m + 1 := ⟨l.length - i - 1, by omega⟩
      rw [show l.length - (i + 1) = m by omega] at hq ⊢
      rw [hm, factL] at hq
      rw [hm, ← hq, Nat.add_mul, Nat.mul_assoc, Nat.add_assoc]
  · obtain rfl : i = l.length := by omega
    have hltI : ¬ (l.length : Int) < l.length := by omega
    simp only [↓vsd, vsn, gW, qd, qv, ev, pick, argE, zipE, ne_eq, eq_self, forall_const, implies_true, if_true, if_false, reduceIte, reduceCtorEq, Nat.reduceEqDiff, Nat.reduceAdd, Nat.reduceLT, ↓us_sl1Place, r_sl1Place, hltI]
    rw [List.drop_length] at hq
    exact ⟨hx1, by rw [← hq]; simp [factL, rankL]⟩
theorem gens_row {n : Nat} (hn : 3 ≤ n ∧ n ≤ 8) {gens : List Bs} (hg : ∀ g ∈ gens, IsRow g ∧ g.length = n) (i : Nat) : ∀ x ∈ clo gens (roundsL n) i, IsRow x ∧ x.length = n :=
  clo_all (fun x => IsRow x ∧ x.length = n) ⟨roundsL_row n hn, roundsL_len n⟩ (fun a ha g hgm => ⟨timesL_row ha.1 (hg g hgm).1 (by rw [ha.2, (hg g hgm).2]), by rw [timesL_len, (hg g hgm).2]⟩) i
theorem igenerated_ok (n : Nat) (hn : 3 ≤ n ∧ n ≤ 8) (v : Value) (gens : List Bs) (most : Nat) (hg : ∀ g ∈ gens, IsRow g ∧ g.length = n) (hl : gens.length ≤ 1000) (hm : 1 ≤ most ∧ most ≤ 1000) (w : World) (h : Sq fS 1 w v gens) : Fn 237 [.int .i64 n, v, .int .i64 most] w (fun r w' => ∃ x, r = .tuple ⟨[x, .bool (decide (GenOk gens (roundsL n) most))]⟩ ∧ Own fS 1 9 w.heap.size w' x (genV gens (roundsL n) most)) := by
  (refine callsV_of mix Try.func237 c_igenerated ?_; simp only [↓vsd, vsn, gW, qd, qv, ev, pick, argE, zipE, ne_eq, eq_self, forall_const, implies_true, if_true, if_false, reduceIte, reduceCtorEq, Nat.reduceEqDiff, Nat.reduceAdd, Nat.reduceLT, ↓us_igenerated, r_igenerated])
  refine m_mkset ?_
  rintro m w1 hmb hs1 hx1 hsz
  simp only [↓vsd, vsn, gW, qd, qv, ev, pick, argE, zipE, ne_eq, eq_self, forall_const, implies_true, if_true, if_false, reduceIte, reduceCtorEq, Nat.reduceEqDiff, Nat.reduceAdd, Nat.reduceLT, ↓us_igenerated, r_igenerated]
  refine m_call (irounds_ok n (by omega) _) ?_
  rintro _ w2 hx2 rfl
  simp only [↓vsd, vsn, gW, qd, qv, ev, pick, argE, zipE, ne_eq, eq_self, forall_const, implies_true, if_true, if_false, reduceIte, reduceCtorEq, Nat.reduceEqDiff, Nat.reduceAdd, Nat.reduceLT, ↓us_igenerated, r_igenerated]
  refine m_put (hs1.ext hx2) ?_
  rintro w3 hs3 hu3
  have hwm : w.heap.size ≤ m := by omega
  have hx3 : Ext w w3 := hu3.below (hx1.trans hx2) hwm
  simp only [↓vsd, vsn, gW, qd, qv, ev, pick, argE, zipE, ne_eq, eq_self, forall_const, implies_true, if_true, if_false, reduceIte, reduceCtorEq, Nat.reduceEqDiff, Nat.reduceAdd, Nat.reduceLT, ↓us_igenerated, r_igenerated]
  refine m_call (irounds_ok n (by omega) _) ?_
  rintro _ w4 hx4 rfl
  simp only [↓vsd, vsn, gW, qd, qv, ev, pick, argE, zipE, ne_eq, eq_self, forall_const, implies_true, if_true, if_false, reduceIte, reduceCtorEq, Nat.reduceEqDiff, Nat.reduceAdd, Nat.reduceLT, ↓us_igenerated, r_igenerated]
  refine m_bsl (one_el rfl) ?_
  rintro b5 w5 hb5 hblk5 hx5 hs5
  simp only [↓vsd, vsn, gW, qd, qv, ev, pick, argE, zipE, ne_eq, eq_self, forall_const, implies_true, if_true, if_false, reduceIte, reduceCtorEq, Nat.reduceEqDiff, Nat.reduceAdd, Nat.reduceLT, ↓us_igenerated, r_igenerated]
  have hx35 := hx4.trans hx5
  have hs5' := hs3.ext hx35
  have hx05 := hx3.trans hx35
  refine m_upto most (fun i vs w' => ∃ x, vs = [x, .int .i64 i] ∧ Own fS 1 9 w.heap.size w' x (clo gens (roundsL n) i) ∧ SetAt w' m (clo gens (roundsL n) i) ∧ Ext w w' ∧ (clo gens (roundsL n) i).length ≤ most ∧ i ≤ (clo gens (roundsL n) i).length) ⟨_, rfl, (Own.one fS_len hblk5 rfl (by have := hx3.size; have := hx4.size; omega)).to rfl, hs5', hx05, hm.1, Nat.zero_le _⟩ ?_
  rintro i vs w6 hi ⟨x, rfl, ho6, hs6, hx6, hlm, hil⟩
  have hrow := gens_row hn hg i
  by_cases hlt : i < (clo gens (roundsL n) i).length
  · have hltI : (i : Int) < (clo gens (roundsL n) i).length := by omega
    have hltJ : ¬ ((clo gens (roundsL n) i).length : Int) ≤ i := by omega
    have hsucc := clo_succ hlt
    have hpre := clo_pre gens (roundsL n) i
    generalize hC : clo gens (roundsL n) i = C at *
    have hai := hrow _ (getD_mem [] hlt)
    have hq6 := h.ext hx6
    generalize ha : C.getD i [] = a at *
    simp only [↓vsd, vsn, gW, qd, qv, ev, pick, argE, zipE, ne_eq, eq_self, forall_const, implies_true, if_true, if_false, reduceIte, reduceCtorEq, Nat.reduceEqDiff, Nat.reduceAdd, Nat.reduceLT, ↓us_igenerated, r_igenerated, ho6.sq.facts, hltI, hltJ, hq6.facts]
    refine m_upto gens.length (fun k vs w' => ∃ x, vs = [x, .int .i64 k] ∧ Own fS 1 9 w.heap.size w' x (grow1 (gens.take k) C a) ∧ SetAt w' m (grow1 (gens.take k) C a) ∧ Ext w w' ∧ (grow1 (gens.take k) C a).length ≤ most) ⟨x, rfl, ho6, hs6, hx6, hlm⟩ ?_
    rintro k vs w7 hk ⟨x7, rfl, ho7, hs7, hx7, hl7⟩
    have hq7 := h.ext hx7
    have hpre7 := grow1_pre (gens.take k) C a
    have hi7 := pre_get hpre7 hlt
    rw [ha] at hi7
    have hil7 : i < (grow1 (gens.take k) C a).length := Nat.lt_of_lt_of_le hlt hpre7.length_le
    by_cases hltk : k < gens.length
    · have hkI : (k : Int) < gens.length := by omega
      have hkJ : ¬ (gens.length : Int) ≤ k := by omega
      have hg1 := hg _ (getD_mem [] hltk)
      have hs := grow1_succ gens C a k hltk
      have hmono := grow1_mono gens C a (k + 1)
      have a7 := hq7.at1 [] hltk
      have b7 := ho7.sq.at1 [] hil7
      rw [hi7] at b7
      generalize grow1 (gens.take k) C a = D at *
      generalize gens.getD k [] = g at *
      simp only [↓vsd, vsn, gW, qd, qv, ev, pick, argE, zipE, ne_eq, eq_self, forall_const, implies_true, if_true, if_false, reduceIte, reduceCtorEq, Nat.reduceEqDiff, Nat.reduceAdd, Nat.reduceLT, ↓us_igenerated, r_igenerated, hkI, hkJ, hq7.facts, a7, ho7.sq.facts, b7]
      refine ⟨by omega, by omega, ?_⟩
      refine m_call (itimes_ok a g hg1.1 (by rw [hai.2, hg1.2]) _) ?_
      rintro _ w8 hx8 rfl
      have hx8 : Ext w7 w8 := by first | exact hx8 | exact ud hx8 | exact ud (ud hx8)
      have hs8 := hs7.ext hx8
      have ho8 := ho7.ext hx8
      have hx08 := hx7.trans hx8
      have hlk := hs8.look (timesL a g)
      by_cases hin : timesL a g ∈ D
      · have hp : put1 D (timesL a g) = D := by unfold put1; rw [if_pos hin]
        simp only [↓vsd, vsn, gW, qd, qv, ev, pick, argE, zipE, ne_eq, eq_self, forall_const, implies_true, if_true, if_false, reduceIte, reduceCtorEq, Nat.reduceEqDiff, Nat.reduceAdd, Nat.reduceLT, ↓us_igenerated, r_igenerated, hlk, hin]
        exact ⟨inR_i64 (by omega), UpTo.next hltk ⟨x7, rfl, ho8.to (by rw [hs, hp]), by rw [hs, hp]; exact hs8, hx08, by rw [hs, hp]; exact hl7⟩⟩
      · have hp : put1 D (timesL a g) = D ++ [timesL a g] := by unfold put1; rw [if_neg hin]
        simp only [↓vsd, vsn, gW, qd, qv, ev, pick, argE, zipE, ne_eq, eq_self, forall_const, implies_true, if_true, if_false, reduceIte, reduceCtorEq, Nat.reduceEqDiff, Nat.reduceAdd, Nat.reduceLT, ↓us_igenerated, r_igenerated, hlk, hin, ho8.sq.facts]
        refine ⟨fun hfull => ?_, fun hroom => ?_⟩
        · have hno : ¬ GenOk gens (roundsL n) most := by
            refine gen_fail (i := i) (by rw [hC]; exact hlm) (by rw [hC]; exact hlt) ?_
            rw [hsucc]
            have : (grow1 (gens.take (k + 1)) C a).length = D.length + 1 := by rw [hs, hp]; simp
            omega
          exact ⟨hx08, _, by rw [decide_eq_false hno], by rw [genV, if_neg hno]; exact Own.nil fS_len⟩
        · refine m_put hs8 ?_
          rintro w9 hs9 hu9
          have hx9 : Ext w w9 := hu9.below hx08 hwm
          have ho9 := ho8.upd hu9 (hs8.apart ho8)
          simp only [↓vsd, vsn, gW, qd, qv, ev, pick, argE, zipE, ne_eq, eq_self, forall_const, implies_true, if_true, if_false, reduceIte, reduceCtorEq, Nat.reduceEqDiff, Nat.reduceAdd, Nat.reduceLT, ↓us_igenerated, r_igenerated]
          refine m_bsl (one_el rfl) ?_
          rintro b10 w10 hb10 hblk10 hx10 hs10
          have hx10 : Ext w9 w10 := by first | exact hx10 | exact ud hx10 | exact ud (ud hx10)
          simp only [↓vsd, vsn, gW, qd, qv, ev, pick, argE, zipE, ne_eq, eq_self, forall_const, implies_true, if_true, if_false, reduceIte, reduceCtorEq, Nat.reduceEqDiff, Nat.reduceAdd, Nat.reduceLT, ↓us_igenerated, r_igenerated]
          refine m_app (ho9.ext hx10) (Sq.one fS_len hblk10 rfl) fS_one (by decide) (by simp; omega) (by decide) ((hx9.trans hx10).size) ?_
          rintro x11 w11 ho11 hg11
          have hx11 := (ho9.ext hx10).grown (hx9.trans hx10) (Nat.le_refl _) hg11
          have hs11 := (hs9.ext hx10).grown hg11 ((hs9.ext hx10).apart (ho9.ext hx10))
          simp only [↓vsd, vsn, gW, qd, qv, ev, pick, argE, zipE, ne_eq, eq_self, forall_const, implies_true, if_true, if_false, reduceIte, reduceCtorEq, Nat.reduceEqDiff, Nat.reduceAdd, Nat.reduceLT, ↓us_igenerated, r_igenerated]
          exact ⟨inR_i64 (by omega), UpTo.next hltk ⟨x11, rfl, ho11.to (by rw [hs, hp]), by rw [hs]; exact hs11, hx11, by rw [hs, hp, List.length_append, List.length_singleton]; omega⟩⟩
    · obtain rfl : k = gens.length := by omega
      have hkI : ¬ (gens.length : Int) < gens.length := by omega
      rw [List.take_length] at ho7 hs7 hl7 hil7
      simp only [↓vsd, vsn, gW, qd, qv, ev, pick, argE, zipE, ne_eq, eq_self, forall_const, implies_true, if_true, if_false, reduceIte, reduceCtorEq, Nat.reduceEqDiff, Nat.reduceAdd, Nat.reduceLT, ↓us_igenerated, r_igenerated, hkI]
      exact ⟨inR_i64 (by omega), UpTo.next (by omega) ⟨x7, by simp, by rw [hsucc]; exact ho7, by rw [hsucc]; exact hs7, hx7, by rw [hsucc]; exact hl7, by rw [hsucc]; omega⟩⟩
  · have hend := gen_end (gens := gens) (e := roundsL n) (m := most) (i := i) (by omega) hlm
    have hei : i = (clo gens (roundsL n) i).length := by omega
    have hltI : ¬ (i : Int) < (clo gens (roundsL n) i).length := by omega
    have hpos : 0 < (clo gens (roundsL n) i).length := List.length_pos_of_mem (clo_first _ _ _)
    simp only [↓vsd, vsn, gW, qd, qv, ev, pick, argE, zipE, ne_eq, eq_self, forall_const, implies_true, if_true, if_false, reduceIte, reduceCtorEq, Nat.reduceEqDiff, Nat.reduceAdd, Nat.reduceLT, ↓us_igenerated, r_igenerated, ho6.sq.facts, hltI]
    refine m_callw (by first | exact .inl rfl | exact .inr rfl) (xslices_Sort_string_string_ok x _ (by omega) (own_ne ho6 hpos) _ ho6) ?_
    rintro _ w7 ⟨ho7, hg7⟩
    have hx7 := ho6.grown hx6 (Nat.le_refl _) hg7
    simp only [↓vsd, vsn, gW, qd, qv, ev, pick, argE, zipE, ne_eq, eq_self, forall_const, implies_true, if_true, if_false, reduceIte, reduceCtorEq, Nat.reduceEqDiff, Nat.reduceAdd, Nat.reduceLT, ↓us_igenerated, r_igenerated]
    exact ⟨hx7, x, by rw [decide_eq_true hend.1], by rw [genV, if_pos hend.1, hend.2]; exact ho7⟩
/-- Which rows of a stage are there, by their ranks. -/
def SeenAt (n : Nat) (L : List Bs) (B : List Bool) : Prop := B.length = factL n ∧ ∀ x, IsRow x → x.length = n → B.getD (rankL x) false = decide (x ∈ L)
theorem SeenAt.put {n : Nat} {L : List Bs} {B : List Bool} (h : SeenAt n L B) {x : Bs} (hx : IsRow x) (hl : x.length = n) : SeenAt n (L ++ [x]) (B.set (rankL x) true) := by
  refine ⟨by rw [List.length_set, h.1], fun y hy hyl => ?_⟩
  have hr := rankL_lt x
  rw [hl, ← h.1] at hr
  by_cases he : y = x
  · subst he
    rw [List.getD_eq_getElem?_getD, List.getElem?_set_self hr]
    simp
  · have hne : rankL x ≠ rankL y := fun e => he (rank_inj hy hx (by omega) e.symm)
    rw [List.getD_eq_getElem?_getD, List.getElem?_set_ne hne, ← List.getD_eq_getElem?_getD, h.2 y hy hyl]
    simp [he]
theorem SeenAt.none (n : Nat) : SeenAt n [] (List.replicate (factL n) false) := by
  refine ⟨by simp, fun x hx hl => ?_⟩
  have hr := rankL_lt x
  rw [hl] at hr
  rw [List.getD_eq_getElem?_getD, List.getElem?_replicate, if_pos hr]
  simp
theorem sl6Seen_ok (n : Nat) (hn : n < 9) (w : World) : Fn 277 [.int .i64 n] w (fun r w' => Own fB 1 4 w.heap.size w' r (List.replicate (factL n) false)) := by
  (refine callsV_of mix Try.func277 c_sl6Seen ?_; simp only [↓vsd, vsn, gW, qd, qv, ev, pick, argE, zipE, ne_eq, eq_self, forall_const, implies_true, if_true, if_false, reduceIte, reduceCtorEq, Nat.reduceEqDiff, Nat.reduceAdd, Nat.reduceLT, ↓us_sl6Seen, r_sl6Seen])
  refine m_call (sl1Fact_ok n hn _) ?_
  rintro _ w1 hx1 rfl
  have hf := factL_le n hn
  simp only [↓vsd, vsn, gW, qd, qv, ev, pick, argE, zipE, ne_eq, eq_self, forall_const, implies_true, if_true, if_false, reduceIte, reduceCtorEq, Nat.reduceEqDiff, Nat.reduceAdd, Nat.reduceLT, ↓us_sl6Seen, r_sl6Seen]
  refine m_msl false fB_len rfl (by omega) (by decide) (Nat.le_refl _) ?_
  rintro v2 w2 ho2 hb2 hx2
  simp only [↓vsd, vsn, gW, qd, qv, ev, pick, argE, zipE, ne_eq, eq_self, forall_const, implies_true, if_true, if_false, reduceIte, reduceCtorEq, Nat.reduceEqDiff, Nat.reduceAdd, Nat.reduceLT, ↓us_sl6Seen, r_sl6Seen]
  exact ⟨hx1.trans hx2, ho2.mono hx1.size⟩
theorem sl6Close_ok (n : Nat) (hn : 3 ≤ n ∧ n ≤ 8) (v : Value) (gens : List Bs) (hg : ∀ g ∈ gens, IsRow g ∧ g.length = n) (hl : 1 ≤ gens.length ∧ gens.length ≤ 1000) (w : World) (h : Sq fS 1 w v gens) : Fn 194 [v] w (fun r w' => ∃ x, r = .tuple ⟨[x, .bool (decide (GenOk gens (roundsL n) 800))]⟩ ∧ Own fS 1 9 w.heap.size w' x (genV gens (roundsL n) 800)) := by
  have hg0 := hg _ (getD_mem [] (show 0 < gens.length by omega))
  have hz : 0 < gens.length := by omega
  have h0 := h.at0 [] hz
  (refine callsV_of mix Try.func194 c_sl6Close ?_; simp only [↓vsd, vsn, gW, qd, qv, ev, pick, argE, zipE, ne_eq, eq_self, forall_const, implies_true, if_true, if_false, reduceIte, reduceCtorEq, Nat.reduceEqDiff, Nat.reduceAdd, Nat.reduceLT, ↓us_sl6Close, r_sl6Close])
  simp only [↓vsd, vsn, gW, qd, qv, ev, pick, argE, zipE, ne_eq, eq_self, forall_const, implies_true, if_true, if_false, reduceIte, reduceCtorEq, Nat.reduceEqDiff, Nat.reduceAdd, Nat.reduceLT, ↓us_sl6Close, r_sl6Close, h.facts, h0]
  rw [hg0.2]
  refine ⟨by omega, m_call (sl1Rounds_ok n (by omega) _) ?_⟩
  rintro _ w1 hx1 rfl
  have hR := roundsL_row n hn
  have hRl := roundsL_len n
  simp only [↓vsd, vsn, gW, qd, qv, ev, pick, argE, zipE, ne_eq, eq_self, forall_const, implies_true, if_true, if_false, reduceIte, reduceCtorEq, Nat.reduceEqDiff, Nat.reduceAdd, Nat.reduceLT, ↓us_sl6Close, r_sl6Close, hRl]
  refine m_call (sl6Seen_ok n (by omega) _) ?_
  rintro z w2 hx2 hoz
  simp only [↓vsd, vsn, gW, qd, qv, ev, pick, argE, zipE, ne_eq, eq_self, forall_const, implies_true, if_true, if_false, reduceIte, reduceCtorEq, Nat.reduceEqDiff, Nat.reduceAdd, Nat.reduceLT, ↓us_sl6Close, r_sl6Close]
  refine m_call (sl1Place_ok _ (by omega) _) ?_
  rintro _ w3 hx3 rfl
  have hx3 : Ext w2 w3 := by first | exact hx3 | exact ud hx3 | exact ud (ud hx3)
  have hoz3 := hoz.ext hx3
  have hf := factL_le n (by omega)
  have hrl := rankL_lt (roundsL n)
  rw [hRl] at hrl
  have hlen : (List.replicate (factL n) false).length = factL n := by simp
  simp only [↓vsd, vsn, gW, qd, qv, ev, pick, argE, zipE, ne_eq, eq_self, forall_const, implies_true, if_true, if_false, reduceIte, reduceCtorEq, Nat.reduceEqDiff, Nat.reduceAdd, Nat.reduceLT, ↓us_sl6Close, r_sl6Close, hoz3.sq.facts, hlen]
  refine ⟨by omega, ?_⟩
  refine m_set1 (rankL (roundsL n)) true hoz3 rfl (by omega) rfl fB_one ?_
  rintro w4 hoz4 hg4 _
  have hx12 : Ext w w3 := (hx1.trans hx2).trans hx3
  have hsz1 : w.heap.size ≤ w1.heap.size := hx1.size
  have hx4 : Ext w w4 := hoz3.grown hx12 hsz1 hg4
  have hS4 : SeenAt n [roundsL n] ((List.replicate (factL n) false).set (rankL (roundsL n)) true) := (SeenAt.none n).put hR hRl
  simp only [↓vsd, vsn, gW, qd, qv, ev, pick, argE, zipE, ne_eq, eq_self, forall_const, implies_true, if_true, if_false, reduceIte, reduceCtorEq, Nat.reduceEqDiff, Nat.reduceAdd, Nat.reduceLT, ↓us_sl6Close, r_sl6Close]
  refine m_bsl (one_el rfl) ?_
  rintro b5 w5 hb5 hblk5 hx5 hs5
  simp only [↓vsd, vsn, gW, qd, qv, ev, pick, argE, zipE, ne_eq, eq_self, forall_const, implies_true, if_true, if_false, reduceIte, reduceCtorEq, Nat.reduceEqDiff, Nat.reduceAdd, Nat.reduceLT, ↓us_sl6Close, r_sl6Close]
  have hap : Apart (.slice (some ⟨b5, 0, none⟩) 1 1) z := fun c hc e => by
    simp only [Value.ownBlock, Option.some.injEq] at hc
    have := hoz4.lt c e
    omega
  refine m_upto 800 (fun i vs w' => ∃ x B, vs = [x, .int .i64 i] ∧ Own fS 1 9 w.heap.size w' x (clo gens (roundsL n) i) ∧ Own fB 1 4 w.heap.size w' z B ∧ Apart x z ∧ SeenAt n (clo gens (roundsL n) i) B ∧ Ext w w' ∧ (clo gens (roundsL n) i).length ≤ 800 ∧ i ≤ (clo gens (roundsL n) i).length) ⟨_, _, rfl, (Own.one fS_len hblk5 rfl (by have := hx4.size; omega)).to rfl, (hoz4.ext hx5).mono hsz1, hap, hS4, hx4.trans hx5, by simp [clo], Nat.zero_le _⟩ ?_
  rintro i vs w6 hi ⟨x, B, rfl, ho6, hz6, hap6, hS6, hx6, hlm, hil⟩
  have hrow := gens_row hn hg i
  by_cases hlt : i < (clo gens (roundsL n) i).length
  · have hltI : (i : Int) < (clo gens (roundsL n) i).length := by omega
    have hltJ : ¬ ((clo gens (roundsL n) i).length : Int) ≤ i := by omega
    have hsucc := clo_succ hlt
    generalize hC : clo gens (roundsL n) i = C at *
    have hai := hrow _ (getD_mem [] hlt)
    have hq6 := h.ext hx6
    generalize ha : C.getD i [] = a at *
    simp only [↓vsd, vsn, gW, qd, qv, ev, pick, argE, zipE, ne_eq, eq_self, forall_const, implies_true, if_true, if_false, reduceIte, reduceCtorEq, Nat.reduceEqDiff, Nat.reduceAdd, Nat.reduceLT, ↓us_sl6Close, r_sl6Close, ho6.sq.facts, hltI, hltJ, hq6.facts]
    refine m_upto gens.length (fun k vs w' => ∃ x B, vs = [x, .int .i64 k] ∧ Own fS 1 9 w.heap.size w' x (grow1 (gens.take k) C a) ∧ Own fB 1 4 w.heap.size w' z B ∧ Apart x z ∧ SeenAt n (grow1 (gens.take k) C a) B ∧ Ext w w') ⟨x, B, rfl, ho6, hz6, hap6, hS6, hx6⟩ ?_
    rintro k vs w7 hk ⟨x7, B7, rfl, ho7, hz7, hap7, hS7, hx7⟩
    have hq7 := h.ext hx7
    have hpre7 := grow1_pre (gens.take k) C a
    have hi7 := pre_get hpre7 hlt
    rw [ha] at hi7
    have hil7 : i < (grow1 (gens.take k) C a).length := Nat.lt_of_lt_of_le hlt hpre7.length_le
    have hD7 := grow1_len2 (gens.take k) C a
    rw [List.length_take] at hD7
    by_cases hltk : k < gens.length
    · have hkI : (k : Int) < gens.length := by omega
      have hkJ : ¬ (gens.length : Int) ≤ k := by omega
      have hg1 := hg _ (getD_mem [] hltk)
      have hs := grow1_succ gens C a k hltk
      have a7 := hq7.at1 [] hltk
      have b7 := ho7.sq.at1 [] hil7
      rw [hi7] at b7
      generalize grow1 (gens.take k) C a = D at *
      generalize gens.getD k [] = g at *
      simp only [↓vsd, vsn, gW, qd, qv, ev, pick, argE, zipE, ne_eq, eq_self, forall_const, implies_true, if_true, if_false, reduceIte, reduceCtorEq, Nat.reduceEqDiff, Nat.reduceAdd, Nat.reduceLT, ↓us_sl6Close, r_sl6Close, hkI, hkJ, hq7.facts, a7, ho7.sq.facts, b7]
      refine ⟨by omega, by omega, m_call (sl1Times_ok a g hg1.1 (by rw [hai.2, hg1.2]) _) ?_⟩
      rintro _ w8 hx8 rfl
      have hx8 : Ext w7 w8 := by first | exact hx8 | exact ud hx8 | exact ud (ud hx8)
      have hrr := timesL_row hai.1 hg1.1 (by rw [hai.2, hg1.2])
      have hrl : (timesL a g).length = n := by rw [timesL_len, hg1.2]
      have hrk := rankL_lt (timesL a g)
      rw [hrl, ← hS7.1] at hrk
      have hfac := hS7.1
      have hlook := hS7.2 _ hrr hrl
      simp only [↓vsd, vsn, gW, qd, qv, ev, pick, argE, zipE, ne_eq, eq_self, forall_const, implies_true, if_true, if_false, reduceIte, reduceCtorEq, Nat.reduceEqDiff, Nat.reduceAdd, Nat.reduceLT, ↓us_sl6Close, r_sl6Close]
      refine m_call (sl1Place_ok (timesL a g) (by omega) _) ?_
      rintro _ w9 hx9 rfl
      have hx9 : Ext w8 w9 := by first | exact hx9 | exact ud hx9 | exact ud (ud hx9)
      have hx79 := hx8.trans hx9
      have hz9 := hz7.ext hx79
      have ho9 := ho7.ext hx79
      have hx09 := hx7.trans hx79
      have c9 := hz9.sq.at1 false hrk
      rw [hlook] at c9
      by_cases hin : timesL a g ∈ D
      · have hp : put1 D (timesL a g) = D := by unfold put1; rw [if_pos hin]
        have hd : decide (timesL a g ∈ D) = true := decide_eq_true hin
        simp only [↓vsd, vsn, gW, qd, qv, ev, pick, argE, zipE, ne_eq, eq_self, forall_const, implies_true, if_true, if_false, reduceIte, reduceCtorEq, Nat.reduceEqDiff, Nat.reduceAdd, Nat.reduceLT, ↓us_sl6Close, r_sl6Close, hz9.sq.facts, c9, hd]
        exact ⟨by omega, inR_i64 (by omega), UpTo.next hltk ⟨x7, B7, rfl, ho9.to (by rw [hs, hp]), hz9, hap7, by rw [hs, hp]; exact hS7, hx09⟩⟩
      · have hp : put1 D (timesL a g) = D ++ [timesL a g] := by unfold put1; rw [if_neg hin]
        have hd : decide (timesL a g ∈ D) = false := decide_eq_false hin
        simp only [↓vsd, vsn, gW, qd, qv, ev, pick, argE, zipE, ne_eq, eq_self, forall_const, implies_true, if_true, if_false, reduceIte, reduceCtorEq, Nat.reduceEqDiff, Nat.reduceAdd, Nat.reduceLT, ↓us_sl6Close, r_sl6Close, hz9.sq.facts, c9, hd]
        refine ⟨by omega, m_call (sl1Place_ok (timesL a g) (by omega) _) ?_⟩
        rintro _ w10 hx10 rfl
        have hx10 : Ext w9 w10 := by first | exact hx10 | exact ud hx10 | exact ud (ud hx10)
        have hz10 := hz9.ext hx10
        have ho10 := ho9.ext hx10
        have hx010 := hx09.trans hx10
        simp only [↓vsd, vsn, gW, qd, qv, ev, pick, argE, zipE, ne_eq, eq_self, forall_const, implies_true, if_true, if_false, reduceIte, reduceCtorEq, Nat.reduceEqDiff, Nat.reduceAdd, Nat.reduceLT, ↓us_sl6Close, r_sl6Close, hz10.sq.facts]
        refine ⟨by omega, m_set1 (rankL (timesL a g)) true hz10 rfl hrk rfl fB_one ?_⟩
        rintro w11 hz11 hg11 _
        have hx11 : Ext w w11 := hz10.grown hx010 (Nat.le_refl _) hg11
        have ho11 := ho10.keep2 hg11 hap7.symm
        simp only [↓vsd, vsn, gW, qd, qv, ev, pick, argE, zipE, ne_eq, eq_self, forall_const, implies_true, if_true, if_false, reduceIte, reduceCtorEq, Nat.reduceEqDiff, Nat.reduceAdd, Nat.reduceLT, ↓us_sl6Close, r_sl6Close]
        refine m_bsl (one_el rfl) ?_
        rintro b12 w12 hb12 hblk12 hxc hs12
        have hxc : Ext w11 w12 := by first | exact hxc | exact ud hxc | exact ud (ud hxc)
        simp only [↓vsd, vsn, gW, qd, qv, ev, pick, argE, zipE, ne_eq, eq_self, forall_const, implies_true, if_true, if_false, reduceIte, reduceCtorEq, Nat.reduceEqDiff, Nat.reduceAdd, Nat.reduceLT, ↓us_sl6Close, r_sl6Close]
        refine m_app2 (ho11.ext hxc) (Sq.one fS_len hblk12 rfl) fS_one (by decide) (by simp; omega) (by decide) ((hx11.trans hxc).size) ?_
        rintro x13 w13 ho13 hg13 hn13
        have hx13 := (ho11.ext hxc).grown (hx11.trans hxc) (Nat.le_refl _) hg13
        have hz13 := (hz11.ext hxc).keep2 hg13 hap7
        simp only [↓vsd, vsn, gW, qd, qv, ev, pick, argE, zipE, ne_eq, eq_self, forall_const, implies_true, if_true, if_false, reduceIte, reduceCtorEq, Nat.reduceEqDiff, Nat.reduceAdd, Nat.reduceLT, ↓us_sl6Close, r_sl6Close]
        exact ⟨inR_i64 (by omega), UpTo.next hltk ⟨x13, _, rfl, ho13.to (by rw [hs, hp]), hz13, hap7.next (hz11.ext hxc) hn13, by rw [hs, hp]; exact hS7.put hrr hrl, hx13⟩⟩
    · obtain rfl : k = gens.length := by omega
      have hkI : ¬ (gens.length : Int) < gens.length := by omega
      rw [List.take_length] at ho7 hS7 hil7 hD7
      simp only [↓vsd, vsn, gW, qd, qv, ev, pick, argE, zipE, ne_eq, eq_self, forall_const, implies_true, if_true, if_false, reduceIte, reduceCtorEq, Nat.reduceEqDiff, Nat.reduceAdd, Nat.reduceLT, ↓us_sl6Close, r_sl6Close, hkI, ho7.sq.facts]
      refine ⟨fun hbig => ⟨hx7, .slice none 0 0, ?_, ?_⟩, fun hsm => ⟨inR_i64 (by omega), UpTo.next (by omega) ⟨x7, B7, by simp, by rw [hsucc]; exact ho7, hz7, hap7, by rw [hsucc]; exact hS7, hx7, by rw [hsucc]; omega, by rw [hsucc]; omega⟩⟩⟩
      · rw [decide_eq_false (gen_fail (m := 800) (i := i) (by rw [hC]; exact hlm) (by rw [hC]; exact hlt) (by rw [hsucc]; omega))]
      · rw [genV, if_neg (gen_fail (m := 800) (i := i) (by rw [hC]; exact hlm) (by rw [hC]; exact hlt) (by rw [hsucc]; omega))]; exact Own.nil fS_len
  · have hltI : ¬ (i : Int) < (clo gens (roundsL n) i).length := by omega
    have hend := gen_end (gens := gens) (e := roundsL n) (m := 800) (i := i) (by omega) hlm
    simp only [↓vsd, vsn, gW, qd, qv, ev, pick, argE, zipE, ne_eq, eq_self, forall_const, implies_true, if_true, if_false, reduceIte, reduceCtorEq, Nat.reduceEqDiff, Nat.reduceAdd, Nat.reduceLT, ↓us_sl6Close, r_sl6Close, ho6.sq.facts, hltI]
    refine m_call (sl6Sort_ok _ _ x (Nat.le_refl _) (by omega) _ ho6.sq) ?_
    rintro y w7 hx7 ho7
    simp only [↓vsd, vsn, gW, qd, qv, ev, pick, argE, zipE, ne_eq, eq_self, forall_const, implies_true, if_true, if_false, reduceIte, reduceCtorEq, Nat.reduceEqDiff, Nat.reduceAdd, Nat.reduceLT, ↓us_sl6Close, r_sl6Close]
    exact ⟨hx6.trans hx7, y, by rw [decide_eq_true hend.1], by rw [genV, if_pos hend.1, hend.2]; exact ho7.mono hx6.size⟩
end Go.Proofs.Ytnincmnkdjlndaa
