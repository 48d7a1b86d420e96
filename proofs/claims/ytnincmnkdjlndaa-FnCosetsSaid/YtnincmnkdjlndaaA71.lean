/-
  Closed lists of rows and the test of a group, of both sides.
  Conditions: none.
-/
import Derived.Test.YtnincmnkdjlndaaA54
import Derived.Test.YtnincmnkdjlndaaPz
set_option linter.unusedSimpArgs false
set_option linter.unusedVariables false
set_option linter.defProp false
namespace Go.Proofs.Ytnincmnkdjlndaa
open Go Go.RowKit
section
variable (P : Program) (k : KT) (e : Env) (w : World)
abbrev b193_1 : X := (.cond (.t 10) (.seq (.reg [4] (.c (.q 4 [] (.mv (.c (.bool false)))) .nil)) .ret) .skip)
def t193_1 := b193_1
theorem u193_1 : vcK P t193_1 k e w = vcK P b193_1 k e w := rfl
abbrev b193_2 : X := (.cond (.t 24) (.seq (.reg [4] (.c (.q 4 [] (.mv (.c (.bool false)))) .nil)) .ret) .skip)
def t193_2 := b193_2
theorem u193_2 : vcK P t193_2 k e w = vcK P b193_2 k e w := rfl
abbrev b193_3 : X := (.seq (.drw [0, 1, 12, 13, 24] (.c (.q 16 [] (.mv (.t 0))) (.c (.q 17 [] (.mv (.t 5))) (.c (.q 18 [] (.ia 1 (.t 16) (.t 17))) (.c (.q 19 [] (.ld (.t 18))) (.c (.q 20 [] (.mv (.t 1))) (.c (.q 21 [] (.mv (.t 5))) (.c (.q 22 [] (.ia 1 (.t 20) (.t 21))) (.c (.q 23 [] (.ld (.t 22))) (.c (.q 24 [] (.bin .neq (.t 19) (.t 23))) .nil)))))))))) t193_2)
def t193_3 := b193_3
theorem u193_3 : vcK P t193_3 k e w = vcK P b193_3 k e w := rfl
abbrev b193_4 : X := (.reg [0, 1, 12, 13] (.c (.q 25 [] (.bin .add (.t 13) (.c (.int .i64 1)))) (.c (.q 13 [] (.mv (.t 25))) .nil)))
def t193_4 := b193_4
theorem u193_4 : vcK P t193_4 k e w = vcK P b193_4 k e w := rfl
abbrev b193_5 : X := (.seq (.blk 1 (.seq (.reg [0, 1, 5, 12, 13] (.c (.q 15 [] (.mv (.t 13))) (.c (.q 5 [] (.mv (.t 15))) .nil))) t193_3)) t193_4)
def t193_5 := b193_5
theorem u193_5 : vcK P t193_5 k e w = vcK P b193_5 k e w := rfl
abbrev b193_6 : X := (.seq (.cond (.t 14) .skip (.exit 0)) t193_5)
def t193_6 := b193_6
theorem u193_6 : vcK P t193_6 k e w = vcK P b193_6 k e w := rfl
abbrev b193_7 : X := (.seq (.reg [0, 1, 12, 13, 14] (.c (.q 14 [] (.bin .lss (.t 13) (.t 12))) .nil)) t193_6)
def t193_7 := b193_7
theorem u193_7 : vcK P t193_7 k e w = vcK P b193_7 k e w := rfl
abbrev b193_8 : X := (.blk 0 (.loop [13] [0, 1, 12] t193_7))
def t193_8 := b193_8
theorem u193_8 : vcK P t193_8 k e w = vcK P b193_8 k e w := rfl
abbrev b193_9 : X := (.seq (.reg [4] (.c (.q 4 [] (.mv (.c (.bool true)))) .nil)) .ret)
def t193_9 := b193_9
theorem u193_9 : vcK P t193_9 k e w = vcK P b193_9 k e w := rfl
abbrev b193_10 : X := (.seq (.seq (.reg [0, 1, 12, 13] (.c (.q 11 [] (.mv (.t 0))) (.c (.q 12 [] (.lens (.t 11))) (.c (.q 13 [] (.mv (.c (.int .i64 0)))) .nil)))) t193_8) t193_9)
def t193_10 := b193_10
theorem u193_10 : vcK P t193_10 k e w = vcK P b193_10 k e w := rfl
abbrev b193_11 : X := (.seq (.seq (.reg [0, 1, 10] (.c (.q 6 [] (.mv (.t 0))) (.c (.q 7 [] (.lens (.t 6))) (.c (.q 8 [] (.mv (.t 1))) (.c (.q 9 [] (.lens (.t 8))) (.c (.q 10 [] (.bin .neq (.t 7) (.t 9))) .nil)))))) t193_1) t193_10)
def t193_11 := b193_11
theorem u193_11 : vcK P t193_11 k e w = vcK P b193_11 k e w := rfl
abbrev b193_0 : X := (.seq (.reg [0, 1] (.c (.q 4 [] (.mv (.c (.bool false)))) .nil)) t193_11)
def x_xslices_Equal_string_string := b193_0
theorem u193_0 : vcK P x_xslices_Equal_string_string k e w = vcK P b193_0 k e w := rfl
def r_xslices_Equal_string_string : List XO := [(.mv (.t 4))]
theorem c_xslices_Equal_string_string : convF Try.prog [147, 148, 152, 160, 162, 163, 170, 178, 206, 208, 210, 224, 233, 235, 236, 251, 264, 265, 268, 270, 287, 322] Try.f193 [([0, 1], []), ([0, 1, 10], []), ([4], []), ([0, 1, 12, 13], []), ([13], [0, 1, 12]), ([0, 1, 12, 13, 14], []), ([0, 1, 5, 12, 13], []), ([0, 1, 12, 13, 24], []), ([4], []), ([0, 1, 12, 13], []), ([4], [])] = some (x_xslices_Equal_string_string, r_xslices_Equal_string_string) := by kernel_rfl
def us_xslices_Equal_string_string :=  (aI (aI (aI @u193_0 (aI @u193_1 @u193_2)) (aI @u193_3 (aI @u193_4 @u193_5))) (aI (aI @u193_6 (aI @u193_7 @u193_8)) (aI @u193_9 (aI @u193_10 @u193_11))))
abbrev b108_1 : X := (.cond (.t 11) (.seq (.reg [2, 3] (.c (.q 2 [] (.mv (.c (.slice none 0 0)))) (.c (.q 3 [] (.mv (.c (.bool false)))) .nil))) .ret) .skip)
def t108_1 := b108_1
theorem u108_1 : vcK P t108_1 k e w = vcK P b108_1 k e w := rfl
abbrev b108_2 : X := (.seq (.reg [2, 3] (.c (.q 12 [] (.mv (.t 0))) (.c (.q 13 [] (.ia 1 (.t 12) (.c (.int .i64 0)))) (.c (.q 14 [] (.ld (.t 13))) (.c (.q 15 [] (.len (.t 14))) (.c (.q 16 [] (.mv (.t 0))) (.c (.e (some 17) [] (.call false 237 [(.t 15), (.t 16), (.c (.int .i64 800))])) (.c (.q 18 [] (.ext 0 (.t 17))) (.c (.q 19 [] (.ext 1 (.t 17))) (.c (.q 2 [] (.mv (.t 18))) (.c (.q 3 [] (.mv (.t 19))) .nil))))))))))) .ret)
def t108_2 := b108_2
theorem u108_2 : vcK P t108_2 k e w = vcK P b108_2 k e w := rfl
abbrev b108_3 : X := (.seq (.seq (.reg [0, 11] (.c (.q 4 [] (.mv (.t 0))) (.c (.q 5 [] (.lens (.t 4))) (.c (.q 6 [] (.bin .eql (.t 5) (.c (.int .i64 0)))) (.c (.q 7 [] (.mv (.t 6))) (.c (.q 8 [(7, false)] (.mv (.t 0))) (.c (.e (some 9) [(7, false)] (.call false 115 [(.t 8)])) (.c (.q 10 [(7, false)] (.not (.t 9))) (.c (.q 11 [] (.pick (.t 7) (.c (.bool true)) (.t 10))) .nil))))))))) t108_1) t108_2)
def t108_3 := b108_3
theorem u108_3 : vcK P t108_3 k e w = vcK P b108_3 k e w := rfl
abbrev b108_0 : X := (.seq (.reg [0] (.c (.q 2 [] (.mv (.c (.slice none 0 0)))) (.c (.q 3 [] (.mv (.c (.bool false)))) .nil))) t108_3)
def x_iCloseRows := b108_0
theorem u108_0 : vcK P x_iCloseRows k e w = vcK P b108_0 k e w := rfl
def r_iCloseRows : List XO := [(.mv (.t 2)), (.mv (.t 3))]
theorem c_iCloseRows : convF Try.prog [147, 148, 152, 160, 162, 163, 170, 178, 206, 208, 210, 224, 233, 235, 236, 251, 264, 265, 268, 270, 287, 322] Try.f108 [([0], []), ([0, 11], []), ([2, 3], []), ([2, 3], [])] = some (x_iCloseRows, r_iCloseRows) := by kernel_rfl
def us_iCloseRows :=  (aI (aI @u108_0 @u108_1) (aI @u108_2 @u108_3))
abbrev b109_1 : X := (.cond (.t 11) (.seq (.reg [2, 3] (.c (.q 2 [] (.mv (.c (.slice none 0 0)))) (.c (.q 3 [] (.mv (.c (.bool false)))) .nil))) .ret) .skip)
def t109_1 := b109_1
theorem u109_1 : vcK P t109_1 k e w = vcK P b109_1 k e w := rfl
abbrev b109_2 : X := (.seq (.reg [2, 3] (.c (.q 12 [] (.mv (.t 0))) (.c (.e (some 13) [] (.call false 194 [(.t 12)])) (.c (.q 14 [] (.ext 0 (.t 13))) (.c (.q 15 [] (.ext 1 (.t 13))) (.c (.q 2 [] (.mv (.t 14))) (.c (.q 3 [] (.mv (.t 15))) .nil))))))) .ret)
def t109_2 := b109_2
theorem u109_2 : vcK P t109_2 k e w = vcK P b109_2 k e w := rfl
abbrev b109_3 : X := (.seq (.seq (.reg [0, 11] (.c (.q 4 [] (.mv (.t 0))) (.c (.e (some 5) [] (.call false 172 [(.t 4)])) (.c (.q 6 [] (.not (.t 5))) (.c (.q 7 [] (.mv (.t 6))) (.c (.q 8 [(7, false)] (.mv (.t 0))) (.c (.q 9 [(7, false)] (.lens (.t 8))) (.c (.q 10 [(7, false)] (.bin .eql (.t 9) (.c (.int .i64 0)))) (.c (.q 11 [] (.pick (.t 7) (.c (.bool true)) (.t 10))) .nil))))))))) t109_1) t109_2)
def t109_3 := b109_3
theorem u109_3 : vcK P t109_3 k e w = vcK P b109_3 k e w := rfl
abbrev b109_0 : X := (.seq (.reg [0] (.c (.q 2 [] (.mv (.c (.slice none 0 0)))) (.c (.q 3 [] (.mv (.c (.bool false)))) .nil))) t109_3)
def x_sCloseRows := b109_0
theorem u109_0 : vcK P x_sCloseRows k e w = vcK P b109_0 k e w := rfl
def r_sCloseRows : List XO := [(.mv (.t 2)), (.mv (.t 3))]
theorem c_sCloseRows : convF Try.prog [147, 148, 152, 160, 162, 163, 170, 178, 206, 208, 210, 224, 233, 235, 236, 251, 264, 265, 268, 270, 287, 322] Try.f109 [([0], []), ([0, 11], []), ([2, 3], []), ([2, 3], [])] = some (x_sCloseRows, r_sCloseRows) := by kernel_rfl
def us_sCloseRows :=  (aI (aI @u109_0 @u109_1) (aI @u109_2 @u109_3))
abbrev b228_1 : X := (.cond (.t 22) (.seq (.reg [2] (.c (.q 2 [] (.mv (.c (.bool false)))) .nil)) .ret) .skip)
def t228_1 := b228_1
theorem u228_1 : vcK P t228_1 k e w = vcK P b228_1 k e w := rfl
abbrev b228_2 : X := (.seq (.drw [0, 5, 6, 22] (.c (.q 9 [] (.mv (.t 3))) (.c (.q 10 [] (.bin .gtr (.t 9) (.c (.int .i64 0)))) (.c (.q 11 [] (.mv (.t 10))) (.c (.q 12 [(11, true)] (.mv (.t 0))) (.c (.q 13 [(11, true)] (.mv (.t 3))) (.c (.q 14 [(11, true)] (.bin .sub (.t 13) (.c (.int .i64 1)))) (.c (.q 15 [(11, true)] (.ia 1 (.t 12) (.t 14))) (.c (.q 16 [(11, true)] (.ld (.t 15))) (.c (.q 17 [(11, true)] (.mv (.t 0))) (.c (.q 18 [(11, true)] (.mv (.t 3))) (.c (.q 19 [(11, true)] (.ia 1 (.t 17) (.t 18))) (.c (.q 20 [(11, true)] (.ld (.t 19))) (.c (.q 21 [(11, true)] (.bin .geq (.t 16) (.t 20))) (.c (.q 22 [] (.pick (.t 11) (.t 21) (.c (.bool false)))) .nil))))))))))))))) t228_1)
def t228_2 := b228_2
theorem u228_2 : vcK P t228_2 k e w = vcK P b228_2 k e w := rfl
abbrev b228_3 : X := (.reg [0, 5, 6] (.c (.q 23 [] (.bin .add (.t 6) (.c (.int .i64 1)))) (.c (.q 6 [] (.mv (.t 23))) .nil)))
def t228_3 := b228_3
theorem u228_3 : vcK P t228_3 k e w = vcK P b228_3 k e w := rfl
abbrev b228_4 : X := (.seq (.blk 1 (.seq (.reg [0, 3, 5, 6] (.c (.q 8 [] (.mv (.t 6))) (.c (.q 3 [] (.mv (.t 8))) .nil))) t228_2)) t228_3)
def t228_4 := b228_4
theorem u228_4 : vcK P t228_4 k e w = vcK P b228_4 k e w := rfl
abbrev b228_5 : X := (.seq (.cond (.t 7) .skip (.exit 0)) t228_4)
def t228_5 := b228_5
theorem u228_5 : vcK P t228_5 k e w = vcK P b228_5 k e w := rfl
abbrev b228_6 : X := (.seq (.reg [0, 5, 6, 7] (.c (.q 7 [] (.bin .lss (.t 6) (.t 5))) .nil)) t228_5)
def t228_6 := b228_6
theorem u228_6 : vcK P t228_6 k e w = vcK P b228_6 k e w := rfl
abbrev b228_7 : X := (.blk 0 (.loop [6] [0, 5] t228_6))
def t228_7 := b228_7
theorem u228_7 : vcK P t228_7 k e w = vcK P b228_7 k e w := rfl
abbrev b228_8 : X := (.seq (.reg [2] (.c (.q 24 [] (.mv (.t 0))) (.c (.e (some 25) [] (.call false 172 [(.t 24)])) (.c (.q 2 [] (.mv (.t 25))) .nil)))) .ret)
def t228_8 := b228_8
theorem u228_8 : vcK P t228_8 k e w = vcK P b228_8 k e w := rfl
abbrev b228_9 : X := (.seq (.seq (.reg [0, 5, 6] (.c (.q 4 [] (.mv (.t 0))) (.c (.q 5 [] (.lens (.t 4))) (.c (.q 6 [] (.mv (.c (.int .i64 0)))) .nil)))) t228_7) t228_8)
def t228_9 := b228_9
theorem u228_9 : vcK P t228_9 k e w = vcK P b228_9 k e w := rfl
abbrev b228_0 : X := (.seq (.reg [0] (.c (.q 2 [] (.mv (.c (.bool false)))) .nil)) t228_9)
def x_sl6Rising := b228_0
theorem u228_0 : vcK P x_sl6Rising k e w = vcK P b228_0 k e w := rfl
def r_sl6Rising : List XO := [(.mv (.t 2))]
theorem c_sl6Rising : convF Try.prog [147, 148, 152, 160, 162, 163, 170, 178, 206, 208, 210, 224, 233, 235, 236, 251, 264, 265, 268, 270, 287, 322] Try.f228 [([0], []), ([0, 5, 6], []), ([6], [0, 5]), ([0, 5, 6, 7], []), ([0, 3, 5, 6], []), ([0, 5, 6, 22], []), ([2], []), ([0, 5, 6], []), ([2], [])] = some (x_sl6Rising, r_sl6Rising) := by kernel_rfl
def us_sl6Rising :=  (aI (aI (aI @u228_0 @u228_1) (aI @u228_2 (aI @u228_3 @u228_4))) (aI (aI @u228_5 @u228_6) (aI @u228_7 (aI @u228_8 @u228_9))))
abbrev b229_1 : X := (.cond (.t 23) (.seq (.reg [2] (.c (.q 2 [] (.mv (.c (.bool false)))) .nil)) .ret) .skip)
def t229_1 := b229_1
theorem u229_1 : vcK P t229_1 k e w = vcK P b229_1 k e w := rfl
abbrev b229_2 : X := (.reg [0, 3, 29, 30, 31] (.c (.q 35 [] (.mv (.t 3))) (.c (.q 36 [] (.mv (.t 5))) (.c (.e (some 37) [] (.call false 278 [(.t 36)])) (.c (.q 38 [] (.ia 1 (.t 35) (.t 37))) (.c (.e none [] (.st 1 (.t 38) (.c (.bool true)))) .nil))))))
def t229_2 := b229_2
theorem u229_2 : vcK P t229_2 k e w = vcK P b229_2 k e w := rfl
abbrev b229_3 : X := (.reg [0, 3, 29, 30, 31] (.c (.q 39 [] (.bin .add (.t 31) (.c (.int .i64 1)))) (.c (.q 31 [] (.mv (.t 39))) .nil)))
def t229_3 := b229_3
theorem u229_3 : vcK P t229_3 k e w = vcK P b229_3 k e w := rfl
abbrev b229_4 : X := (.seq (.blk 1 (.seq (.reg [0, 3, 5, 29, 30, 31] (.c (.q 33 [] (.ia 1 (.t 29) (.t 31))) (.c (.q 34 [] (.ld (.t 33))) (.c (.q 5 [] (.mv (.t 34))) .nil)))) t229_2)) t229_3)
def t229_4 := b229_4
theorem u229_4 : vcK P t229_4 k e w = vcK P b229_4 k e w := rfl
abbrev b229_5 : X := (.seq (.cond (.t 32) .skip (.exit 0)) t229_4)
def t229_5 := b229_5
theorem u229_5 : vcK P t229_5 k e w = vcK P b229_5 k e w := rfl
abbrev b229_6 : X := (.seq (.reg [0, 3, 29, 30, 31, 32] (.c (.q 32 [] (.bin .lss (.t 31) (.t 30))) .nil)) t229_5)
def t229_6 := b229_6
theorem u229_6 : vcK P t229_6 k e w = vcK P b229_6 k e w := rfl
abbrev b229_7 : X := (.blk 0 (.loop [31] [0, 3, 29, 30] t229_6))
def t229_7 := b229_7
theorem u229_7 : vcK P t229_7 k e w = vcK P b229_7 k e w := rfl
abbrev b229_8 : X := (.cond (.t 59) (.seq (.reg [2] (.c (.q 2 [] (.mv (.c (.bool false)))) .nil)) .ret) .skip)
def t229_8 := b229_8
theorem u229_8 : vcK P t229_8 k e w = vcK P b229_8 k e w := rfl
abbrev b229_9 : X := (.seq (.reg [0, 3, 7, 40, 41, 42, 46, 47, 48, 59] (.c (.q 52 [] (.mv (.t 3))) (.c (.q 53 [] (.mv (.t 7))) (.c (.q 54 [] (.mv (.t 9))) (.c (.e (some 55) [] (.call false 222 [(.t 53), (.t 54)])) (.c (.e (some 56) [] (.call false 278 [(.t 55)])) (.c (.q 57 [] (.ia 1 (.t 52) (.t 56))) (.c (.q 58 [] (.ld (.t 57))) (.c (.q 59 [] (.not (.t 58))) .nil))))))))) t229_8)
def t229_9 := b229_9
theorem u229_9 : vcK P t229_9 k e w = vcK P b229_9 k e w := rfl
abbrev b229_10 : X := (.reg [0, 3, 7, 40, 41, 42, 46, 47, 48] (.c (.q 60 [] (.bin .add (.t 48) (.c (.int .i64 1)))) (.c (.q 48 [] (.mv (.t 60))) .nil)))
def t229_10 := b229_10
theorem u229_10 : vcK P t229_10 k e w = vcK P b229_10 k e w := rfl
abbrev b229_11 : X := (.seq (.blk 5 (.seq (.reg [0, 3, 7, 9, 40, 41, 42, 46, 47, 48] (.c (.q 50 [] (.ia 1 (.t 46) (.t 48))) (.c (.q 51 [] (.ld (.t 50))) (.c (.q 9 [] (.mv (.t 51))) .nil)))) t229_9)) t229_10)
def t229_11 := b229_11
theorem u229_11 : vcK P t229_11 k e w = vcK P b229_11 k e w := rfl
abbrev b229_12 : X := (.seq (.cond (.t 49) .skip (.exit 4)) t229_11)
def t229_12 := b229_12
theorem u229_12 : vcK P t229_12 k e w = vcK P b229_12 k e w := rfl
abbrev b229_13 : X := (.seq (.reg [0, 3, 7, 40, 41, 42, 46, 47, 48, 49] (.c (.q 49 [] (.bin .lss (.t 48) (.t 47))) .nil)) t229_12)
def t229_13 := b229_13
theorem u229_13 : vcK P t229_13 k e w = vcK P b229_13 k e w := rfl
abbrev b229_14 : X := (.blk 4 (.loop [48] [0, 3, 7, 40, 41, 42, 46, 47] t229_13))
def t229_14 := b229_14
theorem u229_14 : vcK P t229_14 k e w = vcK P b229_14 k e w := rfl
abbrev b229_15 : X := (.seq (.reg [0, 3, 7, 40, 41, 42, 46, 47, 48] (.c (.q 46 [] (.mv (.t 0))) (.c (.q 47 [] (.lens (.t 46))) (.c (.q 48 [] (.mv (.c (.int .i64 0)))) .nil)))) t229_14)
def t229_15 := b229_15
theorem u229_15 : vcK P t229_15 k e w = vcK P b229_15 k e w := rfl
abbrev b229_16 : X := (.reg [0, 3, 40, 41, 42] (.c (.q 61 [] (.bin .add (.t 42) (.c (.int .i64 1)))) (.c (.q 42 [] (.mv (.t 61))) .nil)))
def t229_16 := b229_16
theorem u229_16 : vcK P t229_16 k e w = vcK P b229_16 k e w := rfl
abbrev b229_17 : X := (.seq (.blk 3 (.seq (.reg [0, 3, 7, 40, 41, 42] (.c (.q 44 [] (.ia 1 (.t 40) (.t 42))) (.c (.q 45 [] (.ld (.t 44))) (.c (.q 7 [] (.mv (.t 45))) .nil)))) t229_15)) t229_16)
def t229_17 := b229_17
theorem u229_17 : vcK P t229_17 k e w = vcK P b229_17 k e w := rfl
abbrev b229_18 : X := (.seq (.cond (.t 43) .skip (.exit 2)) t229_17)
def t229_18 := b229_18
theorem u229_18 : vcK P t229_18 k e w = vcK P b229_18 k e w := rfl
abbrev b229_19 : X := (.seq (.reg [0, 3, 40, 41, 42, 43] (.c (.q 43 [] (.bin .lss (.t 42) (.t 41))) .nil)) t229_18)
def t229_19 := b229_19
theorem u229_19 : vcK P t229_19 k e w = vcK P b229_19 k e w := rfl
abbrev b229_20 : X := (.blk 2 (.loop [42] [0, 3, 40, 41] t229_19))
def t229_20 := b229_20
theorem u229_20 : vcK P t229_20 k e w = vcK P b229_20 k e w := rfl
abbrev b229_21 : X := (.seq (.reg [2] (.c (.q 2 [] (.mv (.c (.bool true)))) .nil)) .ret)
def t229_21 := b229_21
theorem u229_21 : vcK P t229_21 k e w = vcK P b229_21 k e w := rfl
abbrev b229_22 : X := (.seq (.seq (.reg [0, 3, 40, 41, 42] (.c (.q 40 [] (.mv (.t 0))) (.c (.q 41 [] (.lens (.t 40))) (.c (.q 42 [] (.mv (.c (.int .i64 0)))) .nil)))) t229_20) t229_21)
def t229_22 := b229_22
theorem u229_22 : vcK P t229_22 k e w = vcK P b229_22 k e w := rfl
abbrev b229_23 : X := (.seq (.seq (.reg [0, 3, 29, 30, 31] (.c (.q 29 [] (.mv (.t 0))) (.c (.q 30 [] (.lens (.t 29))) (.c (.q 31 [] (.mv (.c (.int .i64 0)))) .nil)))) t229_7) t229_22)
def t229_23 := b229_23
theorem u229_23 : vcK P t229_23 k e w = vcK P b229_23 k e w := rfl
abbrev b229_24 : X := (.seq (.reg [0, 3] (.c (.q 24 [] (.mv (.t 0))) (.c (.q 25 [] (.ia 1 (.t 24) (.c (.int .i64 0)))) (.c (.q 26 [] (.ld (.t 25))) (.c (.q 27 [] (.len (.t 26))) (.c (.e (some 28) [] (.call false 277 [(.t 27)])) (.c (.q 3 [] (.mv (.t 28))) .nil))))))) t229_23)
def t229_24 := b229_24
theorem u229_24 : vcK P t229_24 k e w = vcK P b229_24 k e w := rfl
abbrev b229_25 : X := (.seq (.seq (.drw [0, 23] (.c (.q 10 [] (.mv (.t 0))) (.c (.q 11 [] (.lens (.t 10))) (.c (.q 12 [] (.bin .eql (.t 11) (.c (.int .i64 0)))) (.c (.q 13 [] (.mv (.t 12))) (.c (.q 14 [(13, false)] (.mv (.t 0))) (.c (.q 15 [(13, false)] (.ia 1 (.t 14) (.c (.int .i64 0)))) (.c (.q 16 [(13, false)] (.ld (.t 15))) (.c (.q 17 [(13, false)] (.mv (.t 0))) (.c (.q 18 [(13, false)] (.ia 1 (.t 17) (.c (.int .i64 0)))) (.c (.q 19 [(13, false)] (.ld (.t 18))) (.c (.q 20 [(13, false)] (.len (.t 19))) (.c (.e (some 21) [(13, false)] (.call false 260 [(.t 20)])) (.c (.q 22 [(13, false)] (.bin .neq (.t 16) (.t 21))) (.c (.q 23 [] (.pick (.t 13) (.c (.bool true)) (.t 22))) .nil))))))))))))))) t229_1) t229_24)
def t229_25 := b229_25
theorem u229_25 : vcK P t229_25 k e w = vcK P b229_25 k e w := rfl
abbrev b229_0 : X := (.seq (.reg [0] (.c (.q 2 [] (.mv (.c (.bool false)))) .nil)) t229_25)
def x_sl6Group := b229_0
theorem u229_0 : vcK P x_sl6Group k e w = vcK P b229_0 k e w := rfl
def r_sl6Group : List XO := [(.mv (.t 2))]
theorem c_sl6Group : convF Try.prog [147, 148, 152, 160, 162, 163, 170, 178, 206, 208, 210, 224, 233, 235, 236, 251, 264, 265, 268, 270, 287, 322] Try.f229 [([0], []), ([0, 23], []), ([2], []), ([0, 3], []), ([0, 3, 29, 30, 31], []), ([31], [0, 3, 29, 30]), ([0, 3, 29, 30, 31, 32], []), ([0, 3, 5, 29, 30, 31], []), ([0, 3, 29, 30, 31], []), ([0, 3, 29, 30, 31], []), ([0, 3, 40, 41, 42], []), ([42], [0, 3, 40, 41]), ([0, 3, 40, 41, 42, 43], []), ([0, 3, 7, 40, 41, 42], []), ([0, 3, 7, 40, 41, 42, 46, 47, 48], []), ([48], [0, 3, 7, 40, 41, 42, 46, 47]), ([0, 3, 7, 40, 41, 42, 46, 47, 48, 49], []), ([0, 3, 7, 9, 40, 41, 42, 46, 47, 48], []), ([0, 3, 7, 40, 41, 42, 46, 47, 48, 59], []), ([2], []), ([0, 3, 7, 40, 41, 42, 46, 47, 48], []), ([0, 3, 40, 41, 42], []), ([2], [])] = some (x_sl6Group, r_sl6Group) := by kernel_rfl
def us_sl6Group :=  (aI (aI (aI (aI @u229_0 (aI @u229_1 @u229_2)) (aI @u229_3 (aI @u229_4 @u229_5))) (aI (aI @u229_6 (aI @u229_7 @u229_8)) (aI (aI @u229_9 @u229_10) (aI @u229_11 @u229_12)))) (aI (aI (aI @u229_13 (aI @u229_14 @u229_15)) (aI @u229_16 (aI @u229_17 @u229_18))) (aI (aI @u229_19 (aI @u229_20 @u229_21)) (aI (aI @u229_22 @u229_23) (aI @u229_24 @u229_25)))))
abbrev b226_1 : X := (.cond (.t 27) (.seq (.reg [2] (.c (.q 2 [] (.mv (.c (.bool false)))) .nil)) .ret) .skip)
def t226_1 := b226_1
theorem u226_1 : vcK P t226_1 k e w = vcK P b226_1 k e w := rfl
abbrev b226_2 : X := (.cond (.t 41) (.exit 1) .skip)
def t226_2 := b226_2
theorem u226_2 : vcK P t226_2 k e w = vcK P b226_2 k e w := rfl
abbrev b226_3 : X := (.cond (.t 56) (.seq (.reg [2] (.c (.q 2 [] (.mv (.c (.bool false)))) .nil)) .ret) .skip)
def t226_3 := b226_3
theorem u226_3 : vcK P t226_3 k e w = vcK P b226_3 k e w := rfl
abbrev b226_4 : X := (.reg [0, 3, 4, 33, 34, 35] (.c (.q 57 [] (.mv (.t 7))) (.c (.q 4 [] (.mv (.t 57))) .nil)))
def t226_4 := b226_4
theorem u226_4 : vcK P t226_4 k e w = vcK P b226_4 k e w := rfl
abbrev b226_5 : X := (.seq (.seq (.reg [0, 3, 7, 33, 34, 35, 56] (.c (.q 55 [] (.mv (.t 8))) (.c (.q 56 [] (.not (.t 55))) .nil))) t226_3) t226_4)
def t226_5 := b226_5
theorem u226_5 : vcK P t226_5 k e w = vcK P b226_5 k e w := rfl
abbrev b226_6 : X := (.seq (.reg [0, 3, 7, 8, 33, 34, 35] (.c (.q 47 [] (.mv (.t 6))) (.c (.q 48 [] (.len (.t 47))) (.c (.q 49 [] (.mv (.t 3))) (.c (.q 50 [] (.mv (.t 0))) (.c (.q 51 [] (.lens (.t 50))) (.c (.e (some 52) [] (.call false 237 [(.t 48), (.t 49), (.t 51)])) (.c (.q 46 [] (.mv (.t 52))) (.c (.q 53 [] (.ext 0 (.t 46))) (.c (.q 54 [] (.ext 1 (.t 46))) (.c (.q 7 [] (.mv (.t 53))) (.c (.q 8 [] (.mv (.t 54))) .nil)))))))))))) t226_5)
def t226_6 := b226_6
theorem u226_6 : vcK P t226_6 k e w = vcK P b226_6 k e w := rfl
abbrev b226_7 : X := (.seq (.reg [0, 3, 6, 33, 34, 35] (.c (.q 42 [] (.mv (.t 3))) (.c (.q 43 [] (.mv (.t 6))) (.c (.e (some 44) [] (.bsl 9 1 [(.t 43)])) (.c (.e (some 45) [] (.app 24 9 1 16 [(S [])] 24 (.t 42) (.t 44))) (.c (.q 3 [] (.mv (.t 45))) .nil)))))) t226_6)
def t226_7 := b226_7
theorem u226_7 : vcK P t226_7 k e w = vcK P b226_7 k e w := rfl
abbrev b226_8 : X := (.seq (.seq (.reg [0, 3, 4, 6, 33, 34, 35, 41] (.c (.q 39 [] (.mv (.t 4))) (.c (.q 40 [] (.mv (.t 6))) (.c (.e (some 41) [] (.call false 291 [(.t 39), (.t 40)])) .nil)))) t226_2) t226_7)
def t226_8 := b226_8
theorem u226_8 : vcK P t226_8 k e w = vcK P b226_8 k e w := rfl
abbrev b226_9 : X := (.reg [0, 3, 4, 33, 34, 35] (.c (.q 58 [] (.bin .add (.t 35) (.c (.int .i64 1)))) (.c (.q 35 [] (.mv (.t 58))) .nil)))
def t226_9 := b226_9
theorem u226_9 : vcK P t226_9 k e w = vcK P b226_9 k e w := rfl
abbrev b226_10 : X := (.seq (.blk 1 (.seq (.reg [0, 3, 4, 6, 33, 34, 35] (.c (.q 37 [] (.ia 1 (.t 33) (.t 35))) (.c (.q 38 [] (.ld (.t 37))) (.c (.q 6 [] (.mv (.t 38))) .nil)))) t226_8)) t226_9)
def t226_10 := b226_10
theorem u226_10 : vcK P t226_10 k e w = vcK P b226_10 k e w := rfl
abbrev b226_11 : X := (.seq (.cond (.t 36) .skip (.exit 0)) t226_10)
def t226_11 := b226_11
theorem u226_11 : vcK P t226_11 k e w = vcK P b226_11 k e w := rfl
abbrev b226_12 : X := (.seq (.reg [0, 3, 4, 33, 34, 35, 36] (.c (.q 36 [] (.bin .lss (.t 35) (.t 34))) .nil)) t226_11)
def t226_12 := b226_12
theorem u226_12 : vcK P t226_12 k e w = vcK P b226_12 k e w := rfl
abbrev b226_13 : X := (.blk 0 (.loop [3, 4, 35] [0, 33, 34] t226_12))
def t226_13 := b226_13
theorem u226_13 : vcK P t226_13 k e w = vcK P b226_13 k e w := rfl
abbrev b226_14 : X := (.seq (.reg [2] (.c (.q 59 [] (.mv (.t 4))) (.c (.q 60 [] (.mv (.t 0))) (.c (.e (some 61) [] (.call false 193 [(.t 59), (.t 60)])) (.c (.q 2 [] (.mv (.t 61))) .nil))))) .ret)
def t226_14 := b226_14
theorem u226_14 : vcK P t226_14 k e w = vcK P b226_14 k e w := rfl
abbrev b226_15 : X := (.seq (.seq (.reg [0, 3, 4, 33, 34, 35] (.c (.q 33 [] (.mv (.t 0))) (.c (.q 34 [] (.lens (.t 33))) (.c (.q 35 [] (.mv (.c (.int .i64 0)))) .nil)))) t226_13) t226_14)
def t226_15 := b226_15
theorem u226_15 : vcK P t226_15 k e w = vcK P b226_15 k e w := rfl
abbrev b226_16 : X := (.seq (.reg [0, 3, 4] (.c (.q 29 [] (.mv (.t 0))) (.c (.q 30 [] (.ia 1 (.t 29) (.c (.int .i64 0)))) (.c (.q 31 [] (.ld (.t 30))) (.c (.e (some 32) [] (.bsl 9 1 [(.t 31)])) (.c (.q 4 [] (.mv (.t 32))) .nil)))))) t226_15)
def t226_16 := b226_16
theorem u226_16 : vcK P t226_16 k e w = vcK P b226_16 k e w := rfl
abbrev b226_17 : X := (.seq (.reg [0, 3] (.c (.e (some 28) [] (.bsl 9 1 [])) (.c (.q 3 [] (.mv (.t 28))) .nil))) t226_16)
def t226_17 := b226_17
theorem u226_17 : vcK P t226_17 k e w = vcK P b226_17 k e w := rfl
abbrev b226_18 : X := (.seq (.seq (.drw [0, 27] (.c (.q 9 [] (.mv (.t 0))) (.c (.q 10 [] (.lens (.t 9))) (.c (.q 11 [] (.bin .eql (.t 10) (.c (.int .i64 0)))) (.c (.q 12 [] (.mv (.t 11))) (.c (.q 13 [(12, false)] (.mv (.t 0))) (.c (.e (some 14) [(12, false)] (.call false 238 [(.t 13)])) (.c (.q 15 [(12, false)] (.not (.t 14))) (.c (.q 16 [] (.pick (.t 12) (.c (.bool true)) (.t 15))) (.c (.q 17 [] (.mv (.t 16))) (.c (.q 18 [(17, false)] (.mv (.t 0))) (.c (.q 19 [(17, false)] (.ia 1 (.t 18) (.c (.int .i64 0)))) (.c (.q 20 [(17, false)] (.ld (.t 19))) (.c (.q 21 [(17, false)] (.mv (.t 0))) (.c (.q 22 [(17, false)] (.ia 1 (.t 21) (.c (.int .i64 0)))) (.c (.q 23 [(17, false)] (.ld (.t 22))) (.c (.q 24 [(17, false)] (.len (.t 23))) (.c (.e (some 25) [(17, false)] (.call false 142 [(.t 24)])) (.c (.q 26 [(17, false)] (.bin .neq (.t 20) (.t 25))) (.c (.q 27 [] (.pick (.t 17) (.c (.bool true)) (.t 26))) .nil)))))))))))))))))))) t226_1) t226_17)
def t226_18 := b226_18
theorem u226_18 : vcK P t226_18 k e w = vcK P b226_18 k e w := rfl
abbrev b226_0 : X := (.seq (.reg [0] (.c (.q 2 [] (.mv (.c (.bool false)))) .nil)) t226_18)
def x_iisGroup := b226_0
theorem u226_0 : vcK P x_iisGroup k e w = vcK P b226_0 k e w := rfl
def r_iisGroup : List XO := [(.mv (.t 2))]
theorem c_iisGroup : convF Try.prog [147, 148, 152, 160, 162, 163, 170, 178, 206, 208, 210, 224, 233, 235, 236, 251, 264, 265, 268, 270, 287, 322] Try.f226 [([0], []), ([0, 27], []), ([2], []), ([0, 3], []), ([0, 3, 4], []), ([0, 3, 4, 33, 34, 35], []), ([3, 4, 35], [0, 33, 34]), ([0, 3, 4, 33, 34, 35, 36], []), ([0, 3, 4, 6, 33, 34, 35], []), ([0, 3, 4, 6, 33, 34, 35, 41], []), ([0, 3, 6, 33, 34, 35], []), ([0, 3, 7, 8, 33, 34, 35], []), ([0, 3, 7, 33, 34, 35, 56], []), ([2], []), ([0, 3, 4, 33, 34, 35], []), ([0, 3, 4, 33, 34, 35], []), ([2], [])] = some (x_iisGroup, r_iisGroup) := by kernel_rfl
def us_iisGroup :=  (aI (aI (aI (aI @u226_0 @u226_1) (aI @u226_2 @u226_3)) (aI (aI @u226_4 @u226_5) (aI @u226_6 (aI @u226_7 @u226_8)))) (aI (aI (aI @u226_9 @u226_10) (aI @u226_11 (aI @u226_12 @u226_13))) (aI (aI @u226_14 @u226_15) (aI @u226_16 (aI @u226_17 @u226_18)))))
abbrev b110_1 : X := (.cond (.t 11) (.seq (.reg [2, 3] (.c (.q 2 [] (.mv (.c (.bool false)))) (.c (.q 3 [] (.mv (.c (.bool false)))) .nil))) .ret) .skip)
def t110_1 := b110_1
theorem u110_1 : vcK P t110_1 k e w = vcK P b110_1 k e w := rfl
abbrev b110_2 : X := (.seq (.reg [2, 3] (.c (.q 12 [] (.mv (.t 0))) (.c (.e (some 13) [] (.call false 226 [(.t 12)])) (.c (.q 2 [] (.mv (.t 13))) (.c (.q 3 [] (.mv (.c (.bool true)))) .nil))))) .ret)
def t110_2 := b110_2
theorem u110_2 : vcK P t110_2 k e w = vcK P b110_2 k e w := rfl
abbrev b110_3 : X := (.seq (.seq (.reg [0, 11] (.c (.q 4 [] (.mv (.t 0))) (.c (.e (some 5) [] (.call false 115 [(.t 4)])) (.c (.q 6 [] (.not (.t 5))) (.c (.q 7 [] (.mv (.t 6))) (.c (.q 8 [(7, false)] (.mv (.t 0))) (.c (.e (some 9) [(7, false)] (.call false 238 [(.t 8)])) (.c (.q 10 [(7, false)] (.not (.t 9))) (.c (.q 11 [] (.pick (.t 7) (.c (.bool true)) (.t 10))) .nil))))))))) t110_1) t110_2)
def t110_3 := b110_3
theorem u110_3 : vcK P t110_3 k e w = vcK P b110_3 k e w := rfl
abbrev b110_0 : X := (.seq (.reg [0] (.c (.q 2 [] (.mv (.c (.bool false)))) (.c (.q 3 [] (.mv (.c (.bool false)))) .nil))) t110_3)
def x_iIsGroup := b110_0
theorem u110_0 : vcK P x_iIsGroup k e w = vcK P b110_0 k e w := rfl
def r_iIsGroup : List XO := [(.mv (.t 2)), (.mv (.t 3))]
theorem c_iIsGroup : convF Try.prog [147, 148, 152, 160, 162, 163, 170, 178, 206, 208, 210, 224, 233, 235, 236, 251, 264, 265, 268, 270, 287, 322] Try.f110 [([0], []), ([0, 11], []), ([2, 3], []), ([2, 3], [])] = some (x_iIsGroup, r_iIsGroup) := by kernel_rfl
def us_iIsGroup :=  (aI (aI @u110_0 @u110_1) (aI @u110_2 @u110_3))
abbrev b113_1 : X := (.cond (.t 6) (.seq (.reg [2, 3] (.c (.q 2 [] (.mv (.c (.bool false)))) (.c (.q 3 [] (.mv (.c (.bool false)))) .nil))) .ret) .skip)
def t113_1 := b113_1
theorem u113_1 : vcK P t113_1 k e w = vcK P b113_1 k e w := rfl
abbrev b113_2 : X := (.seq (.reg [2, 3] (.c (.q 7 [] (.mv (.t 0))) (.c (.e (some 8) [] (.call false 229 [(.t 7)])) (.c (.q 2 [] (.mv (.t 8))) (.c (.q 3 [] (.mv (.c (.bool true)))) .nil))))) .ret)
def t113_2 := b113_2
theorem u113_2 : vcK P t113_2 k e w = vcK P b113_2 k e w := rfl
abbrev b113_3 : X := (.seq (.seq (.reg [0, 6] (.c (.q 4 [] (.mv (.t 0))) (.c (.e (some 5) [] (.call false 228 [(.t 4)])) (.c (.q 6 [] (.not (.t 5))) .nil)))) t113_1) t113_2)
def t113_3 := b113_3
theorem u113_3 : vcK P t113_3 k e w = vcK P b113_3 k e w := rfl
abbrev b113_0 : X := (.seq (.reg [0] (.c (.q 2 [] (.mv (.c (.bool false)))) (.c (.q 3 [] (.mv (.c (.bool false)))) .nil))) t113_3)
def x_sIsGroup := b113_0
theorem u113_0 : vcK P x_sIsGroup k e w = vcK P b113_0 k e w := rfl
def r_sIsGroup : List XO := [(.mv (.t 2)), (.mv (.t 3))]
theorem c_sIsGroup : convF Try.prog [147, 148, 152, 160, 162, 163, 170, 178, 206, 208, 210, 224, 233, 235, 236, 251, 264, 265, 268, 270, 287, 322] Try.f113 [([0], []), ([0, 6], []), ([2, 3], []), ([2, 3], [])] = some (x_sIsGroup, r_sIsGroup) := by kernel_rfl
def us_sIsGroup :=  (aI (aI @u113_0 @u113_1) (aI @u113_2 @u113_3))
end

def RowN (n : Nat) (l : List Bs) : Prop := ∀ x ∈ l, IsRow x ∧ x.length = n
theorem xslices_Equal_okp (v1 v2 : Value) (l1 l2 : List Bs) (w : World) (h1 : Sq fS 1 w v1 l1) (h2 : Sq fS 1 w v2 l2) (hl : l1.length ≤ 1000000000) : Fn 193 [v1, v2] w (fun v _ => v = .bool (decide (l1 = l2))) := by
  (refine callsV_of mix Try.func193 c_xslices_Equal_string_string ?_; simp only [↓vsd, vsn, gW, qd, qv, ev, pick, argE, zipE, ne_eq, eq_self, forall_const, implies_true, if_true, if_false, reduceIte, reduceCtorEq, Nat.reduceEqDiff, Nat.reduceAdd, Nat.reduceLT, ↓us_xslices_Equal_string_string, r_xslices_Equal_string_string])
  simp only [↓vsd, vsn, gW, qd, qv, ev, pick, argE, zipE, ne_eq, eq_self, forall_const, implies_true, if_true, if_false, reduceIte, reduceCtorEq, Nat.reduceEqDiff, Nat.reduceAdd, Nat.reduceLT, ↓us_xslices_Equal_string_string, r_xslices_Equal_string_string, h1.facts, h2.facts]
  refine ⟨fun hne => ⟨Ext.refl _, by have : ¬ l1 = l2 := fun e => hne (by rw [e]); simp [this]⟩, fun he => ?_⟩
  have he : l1.length = l2.length := by omega
  refine m_upto l1.length (fun i vs w' => vs = [.int .i64 i] ∧ (∀ j < i, l1.getD j [] = l2.getD j []) ∧ Ext w w') ⟨rfl, fun j hj => by omega, Ext.refl _⟩ ?_
  rintro i vs w1 hi ⟨rfl, hall, hx1⟩
  have hq1 := h1.ext hx1
  have hq2 := h2.ext hx1
  by_cases hlt : i < l1.length
  · have hltI : (i : Int) < l1.length := by omega
    have hltJ : ¬ (l1.length : Int) ≤ i := by omega
    have a1 := hq1.at1 [] hlt
    have a2 := hq2.at1 [] (show i < l2.length by omega)
    simp only [↓vsd, vsn, gW, qd, qv, ev, pick, argE, zipE, ne_eq, eq_self, forall_const, implies_true, if_true, if_false, reduceIte, reduceCtorEq, Nat.reduceEqDiff, Nat.reduceAdd, Nat.reduceLT, ↓us_xslices_Equal_string_string, r_xslices_Equal_string_string, hltI, hltJ, hq1.facts, hq2.facts, a1, a2]
    refine ⟨by omega, by omega, fun hne => ⟨hx1, (decide_eq_false fun e => hne (by rw [e])).symm⟩, fun heq => ⟨inR_i64 (by omega), UpTo.next hlt ⟨by simp, fun j hj => ?_, by first | exact hx1 | exact dr hx1⟩⟩⟩
    by_cases hji : j = i
    · subst hji; exact heq
    · exact hall j (by omega)
  · obtain rfl : i = l1.length := by omega
    have hltI : ¬ (l1.length : Int) < l1.length := by omega
    simp only [↓vsd, vsn, gW, qd, qv, ev, pick, argE, zipE, ne_eq, eq_self, forall_const, implies_true, if_true, if_false, reduceIte, reduceCtorEq, Nat.reduceEqDiff, Nat.reduceAdd, Nat.reduceLT, ↓us_xslices_Equal_string_string, r_xslices_Equal_string_string, hltI]
    exact ⟨hx1, (decide_eq_true (ext_getD he hall)).symm⟩
def stgL (l : List Bs) : Nat := (l.getD 0 []).length
theorem IsRows.n {l : List Bs} (h : IsRows l) : RowN (stgL l) l := h.1
theorem IsRows.stage {l : List Bs} (h : IsRows l) (hl : 0 < l.length) : 3 ≤ stgL l ∧ stgL l ≤ 8 := (h.1 _ (getD_mem [] hl)).1.1
def CloseOk (l : List Bs) : Prop := 0 < l.length ∧ IsRows l ∧ GenOk l (roundsL (stgL l)) 800
instance (l : List Bs) : Decidable (CloseOk l) := by unfold CloseOk GenOk; infer_instance
def closeL (l : List Bs) : List Bs := if 0 < l.length ∧ IsRows l then genV l (roundsL (stgL l)) 800 else []
theorem closeOk_of {l : List Bs} (h1 : 0 < l.length) (h2 : IsRows l) : decide (CloseOk l) = decide (GenOk l (roundsL (stgL l)) 800) := decide_eq_decide.2 ⟨fun h => h.2.2, fun h => ⟨h1, h2, h⟩⟩
theorem closeOk_no {l : List Bs} (h : ¬ (0 < l.length ∧ IsRows l)) : decide (CloseOk l) = false := decide_eq_false fun hh => h ⟨hh.1, hh.2.1⟩
theorem iCloseRows_ok (v : Value) (l : List Bs) (hl : l.length ≤ 1000000000) (w : World) (h : Sq fS 1 w v l) : Fn 108 [v] w (fun r w' => ∃ x, r = .tuple ⟨[x, .bool (decide (CloseOk l))]⟩ ∧ Own fS 1 9 w.heap.size w' x (closeL l)) := by
  (refine callsV_of mix Try.func108 c_iCloseRows ?_; simp only [↓vsd, vsn, gW, qd, qv, ev, pick, argE, zipE, ne_eq, eq_self, forall_const, implies_true, if_true, if_false, reduceIte, reduceCtorEq, Nat.reduceEqDiff, Nat.reduceAdd, Nat.reduceLT, ↓us_iCloseRows, r_iCloseRows])
  by_cases h0 : 0 < l.length
  · have h0I : ¬ (l.length : Int) = 0 := by omega
    simp only [↓vsd, vsn, gW, qd, qv, ev, pick, argE, zipE, ne_eq, eq_self, forall_const, implies_true, if_true, if_false, reduceIte, reduceCtorEq, Nat.reduceEqDiff, Nat.reduceAdd, Nat.reduceLT, ↓us_iCloseRows, r_iCloseRows, h.facts, h0I]
    refine m_call (iGoodRows_ok v l hl _ h) ?_
    rintro _ w1 hx1 rfl
    by_cases hr : IsRows l
    · have hq1 := h.ext hx1
      have a1 := hq1.at0 [] h0
      have hs := hr.stage h0
      have h8 := hr.2
      simp only [↓vsd, vsn, gW, qd, qv, ev, pick, argE, zipE, ne_eq, eq_self, forall_const, implies_true, if_true, if_false, reduceIte, reduceCtorEq, Nat.reduceEqDiff, Nat.reduceAdd, Nat.reduceLT, ↓us_iCloseRows, r_iCloseRows, hr, hq1.facts, a1]
      refine ⟨by omega, m_call (igenerated_ok (stgL l) hs v l 800 hr.n (by omega) (by omega) _ hq1) ?_⟩
      rintro _ w2 hx2 ⟨x, rfl, ho⟩
      simp only [↓vsd, vsn, gW, qd, qv, ev, pick, argE, zipE, ne_eq, eq_self, forall_const, implies_true, if_true, if_false, reduceIte, reduceCtorEq, Nat.reduceEqDiff, Nat.reduceAdd, Nat.reduceLT, ↓us_iCloseRows, r_iCloseRows]
      exact ⟨hx1.trans hx2, x, by rw [closeOk_of h0 hr], by rw [closeL, if_pos ⟨h0, hr⟩]; exact ho.mono hx1.size⟩
    · simp only [↓vsd, vsn, gW, qd, qv, ev, pick, argE, zipE, ne_eq, eq_self, forall_const, implies_true, if_true, if_false, reduceIte, reduceCtorEq, Nat.reduceEqDiff, Nat.reduceAdd, Nat.reduceLT, ↓us_iCloseRows, r_iCloseRows, hr]
      exact ⟨hx1, _, by rw [closeOk_no (fun hh => hr hh.2)], by rw [closeL, if_neg (fun hh => hr hh.2)]; exact Own.nil fS_len⟩
  · have h0I : (l.length : Int) = 0 := by omega
    simp only [↓vsd, vsn, gW, qd, qv, ev, pick, argE, zipE, ne_eq, eq_self, forall_const, implies_true, if_true, if_false, reduceIte, reduceCtorEq, Nat.reduceEqDiff, Nat.reduceAdd, Nat.reduceLT, ↓us_iCloseRows, r_iCloseRows, h.facts, h0I]
    exact ⟨Ext.refl _, _, by rw [closeOk_no (fun hh => h0 hh.1)], by rw [closeL, if_neg (fun hh => h0 hh.1)]; exact Own.nil fS_len⟩
theorem sCloseRows_ok (v : Value) (l : List Bs) (hl : l.length ≤ 1000000000) (w : World) (h : Sq fS 1 w v l) : Fn 109 [v] w (fun r w' => ∃ x, r = .tuple ⟨[x, .bool (decide (CloseOk l))]⟩ ∧ Own fS 1 9 w.heap.size w' x (closeL l)) := by
  (refine callsV_of mix Try.func109 c_sCloseRows ?_; simp only [↓vsd, vsn, gW, qd, qv, ev, pick, argE, zipE, ne_eq, eq_self, forall_const, implies_true, if_true, if_false, reduceIte, reduceCtorEq, Nat.reduceEqDiff, Nat.reduceAdd, Nat.reduceLT, ↓us_sCloseRows, r_sCloseRows])
  refine m_call (sl6Rows_ok v l hl _ h) ?_
  rintro _ w1 hx1 rfl
  have hq1 := h.ext hx1
  by_cases hr : IsRows l
  · by_cases h0 : 0 < l.length
    · have h0I : ¬ (l.length : Int) = 0 := by omega
      have hs := hr.stage h0
      have h8 := hr.2
      simp only [↓vsd, vsn, gW, qd, qv, ev, pick, argE, zipE, ne_eq, eq_self, forall_const, implies_true, if_true, if_false, reduceIte, reduceCtorEq, Nat.reduceEqDiff, Nat.reduceAdd, Nat.reduceLT, ↓us_sCloseRows, r_sCloseRows, hr, hq1.facts, h0I]
      refine m_call (sl6Close_ok (stgL l) hs v l hr.n (by omega) _ (by first | exact hq1 | exact hq1.ext (dr (Ext.refl _)))) ?_
      rintro _ w2 hx2 ⟨x, rfl, ho⟩
      simp only [↓vsd, vsn, gW, qd, qv, ev, pick, argE, zipE, ne_eq, eq_self, forall_const, implies_true, if_true, if_false, reduceIte, reduceCtorEq, Nat.reduceEqDiff, Nat.reduceAdd, Nat.reduceLT, ↓us_sCloseRows, r_sCloseRows]
      have hx2 : Ext w1 w2 := by first | exact hx2 | exact ud hx2 | exact ud (ud hx2)
      have hx12 := hx1.trans hx2
      exact ⟨hx12, x, by rw [closeOk_of h0 hr], by rw [closeL, if_pos ⟨h0, hr⟩]; exact ho.mono hx1.size⟩
    · have h0I : (l.length : Int) = 0 := by omega
      simp only [↓vsd, vsn, gW, qd, qv, ev, pick, argE, zipE, ne_eq, eq_self, forall_const, implies_true, if_true, if_false, reduceIte, reduceCtorEq, Nat.reduceEqDiff, Nat.reduceAdd, Nat.reduceLT, ↓us_sCloseRows, r_sCloseRows, hr, hq1.facts, h0I]
      exact ⟨hx1, _, by rw [closeOk_no (fun hh => h0 hh.1)], by rw [closeL, if_neg (fun hh => h0 hh.1)]; exact Own.nil fS_len⟩
  · simp only [↓vsd, vsn, gW, qd, qv, ev, pick, argE, zipE, ne_eq, eq_self, forall_const, implies_true, if_true, if_false, reduceIte, reduceCtorEq, Nat.reduceEqDiff, Nat.reduceAdd, Nat.reduceLT, ↓us_sCloseRows, r_sCloseRows, hr]
    exact ⟨hx1, _, by rw [closeOk_no (fun hh => hr hh.2)], by rw [closeL, if_neg (fun hh => hr hh.2)]; exact Own.nil fS_len⟩
theorem sl6Rising_ok (v : Value) (l : List Bs) (hl : l.length ≤ 1000000000) (w : World) (h : Sq fS 1 w v l) : Fn 228 [v] w (fun x _ => x = .bool (decide (Rise l ∧ IsRows l))) := by
  (refine callsV_of mix Try.func228 c_sl6Rising ?_; simp only [↓vsd, vsn, gW, qd, qv, ev, pick, argE, zipE, ne_eq, eq_self, forall_const, implies_true, if_true, if_false, reduceIte, reduceCtorEq, Nat.reduceEqDiff, Nat.reduceAdd, Nat.reduceLT, ↓us_sl6Rising, r_sl6Rising])
  simp only [↓vsd, vsn, gW, qd, qv, ev, pick, argE, zipE, ne_eq, eq_self, forall_const, implies_true, if_true, if_false, reduceIte, reduceCtorEq, Nat.reduceEqDiff, Nat.reduceAdd, Nat.reduceLT, ↓us_sl6Rising, r_sl6Rising, h.facts]
  refine m_upto l.length (fun k vs w' => vs = [.int .i64 k] ∧ (∀ q, q + 1 < k → l.getD q [] < l.getD (q + 1) []) ∧ Ext w w') ⟨rfl, fun q h1 => by omega, Ext.refl _⟩ ?_
  rintro k vs w1 hk ⟨rfl, hup, hx1⟩
  have hq1 := h.ext hx1
  by_cases hlt : k < l.length
  · have hltI : (k : Int) < l.length := by omega
    have hltJ : ¬ (l.length : Int) ≤ k := by omega
    by_cases h0 : k = 0
    · subst h0
      have h0I : ¬ (0 : Int) < ((0 : Nat) : Int) := by decide
      simp only [↓vsd, vsn, gW, qd, qv, ev, pick, argE, zipE, ne_eq, eq_self, forall_const, implies_true, if_true, if_false, reduceIte, reduceCtorEq, Nat.reduceEqDiff, Nat.reduceAdd, Nat.reduceLT, ↓us_sl6Rising, r_sl6Rising, hltI, hltJ, h0I]
      exact ⟨inR_i64 (by omega), UpTo.next hlt ⟨rfl, fun q h1 => by omega, by first | exact hx1 | exact dr hx1⟩⟩
    · have h0I : (0 : Int) < (k : Int) := by omega
      have a1 := hq1.at1 [] hlt
      have a2 := hq1.at1 [] (i := k - 1) (by omega)
      have e1 : (k : Int) - 1 = ((k - 1 : Nat) : Int) := by omega
      simp only [↓vsd, vsn, gW, qd, qv, ev, pick, argE, zipE, ne_eq, eq_self, forall_const, implies_true, if_true, if_false, reduceIte, reduceCtorEq, Nat.reduceEqDiff, Nat.reduceAdd, Nat.reduceLT, ↓us_sl6Rising, r_sl6Rising, hltI, hltJ, h0I, hq1.facts, e1, a1, a2]
      refine ⟨inR_i64 (by omega), by omega, by omega, fun hb => ⟨hx1, ?_⟩, fun hb => ⟨inR_i64 (by omega), UpTo.next hlt ⟨rfl, fun q h1 => ?_, by first | exact hx1 | exact dr hx1⟩⟩⟩
      · refine (decide_eq_false fun hr => ?_).symm
        have h3 := rise_get hr.1 (k - 1) k (by omega) hlt
        rw [less_lt] at hb
        exact absurd h3 (by simpa using hb)
      · by_cases hqk : q + 1 = k
        · obtain rfl : q = k - 1 := by omega
          rw [less_lt] at hb
          rw [hqk]
          simpa using hb
        · exact hup q (by omega)
  · obtain rfl : k = l.length := by omega
    have hltI : ¬ (l.length : Int) < l.length := by omega
    simp only [↓vsd, vsn, gW, qd, qv, ev, pick, argE, zipE, ne_eq, eq_self, forall_const, implies_true, if_true, if_false, reduceIte, reduceCtorEq, Nat.reduceEqDiff, Nat.reduceAdd, Nat.reduceLT, ↓us_sl6Rising, r_sl6Rising, hltI]
    refine m_call (sl6Rows_ok v l hl _ hq1) ?_
    rintro _ w2 hx2 rfl
    simp only [↓vsd, vsn, gW, qd, qv, ev, pick, argE, zipE, ne_eq, eq_self, forall_const, implies_true, if_true, if_false, reduceIte, reduceCtorEq, Nat.reduceEqDiff, Nat.reduceAdd, Nat.reduceLT, ↓us_sl6Rising, r_sl6Rising]
    have hx2 : Ext w1 w2 := by first | exact hx2 | exact ud hx2 | exact ud (ud hx2)
    have hrise : Rise l := rise_next fun q hq => hup q hq
    exact ⟨hx1.trans hx2, by rw [decide_eq_decide.2 (show Rise l ∧ IsRows l ↔ IsRows l from ⟨fun hh => hh.2, fun hh => ⟨hrise, hh⟩⟩)]⟩
theorem seen_step {n : Nat} {l : List Bs} {k : Nat} {B : List Bool} (h : SeenAt n (l.take k) B) (hk : k < l.length) (hr : RowN n l) : SeenAt n (l.take (k + 1)) (B.set (rankL (l.getD k [])) true) := by
  have hm := hr _ (getD_mem [] hk)
  have e : l.take (k + 1) = l.take k ++ [l.getD k []] := by
    rw [List.take_add_one, List.getElem?_eq_getElem hk, List.getD_eq_getElem?_getD, List.getElem?_eq_getElem hk]; rfl
  rw [e]
  exact h.put hm.1 hm.2
theorem sl6Group_ok (v : Value) (l : List Bs) (hr : IsRows l) (w : World) (h : Sq fS 1 w v l) : Fn 229 [v] w (fun x _ => x = .bool (decide (GrpL l))) := by
  (refine callsV_of mix Try.func229 c_sl6Group ?_; simp only [↓vsd, vsn, gW, qd, qv, ev, pick, argE, zipE, ne_eq, eq_self, forall_const, implies_true, if_true, if_false, reduceIte, reduceCtorEq, Nat.reduceEqDiff, Nat.reduceAdd, Nat.reduceLT, ↓us_sl6Group, r_sl6Group])
  have h8 := hr.2
  by_cases h0 : 0 < l.length
  · have h0I : ¬ (l.length : Int) = 0 := by omega
    have hs := hr.stage h0
    have hn := hr.n
    have hmem := getD_mem [] h0
    have hgd : GrpL l ↔ l.getD 0 [] = roundsL (stgL l) ∧ ∀ a ∈ l, ∀ b ∈ l, timesL a b ∈ l := ⟨fun hh => hh.2, fun hh => ⟨h0, hh⟩⟩
    have hf := factL_le (stgL l) (by omega)
    have a0 := h.at0 [] h0
    have hr0 := hn _ hmem
    generalize hn0 : stgL l = n at *
    generalize hl0 : l.getD 0 [] = r0 at *
    have hr0l := hr0.2
    simp only [↓vsd, vsn, gW, qd, qv, ev, pick, argE, zipE, ne_eq, eq_self, forall_const, implies_true, if_true, if_false, reduceIte, reduceCtorEq, Nat.reduceEqDiff, Nat.reduceAdd, Nat.reduceLT, ↓us_sl6Group, r_sl6Group, h0I, h.facts, a0, hr0l]
    refine ⟨by omega, by omega, m_call (sl1Rounds_ok n (by omega) _) ?_⟩
    rintro _ w1 hx1 rfl
    have hx1 : Ext w w1 := by first | exact hx1 | exact ud hx1 | exact ud (ud hx1)
    by_cases hf : r0 = roundsL n
    · have hq1 := h.ext hx1
      have a1 := hq1.at0 [] h0
      rw [hl0] at a1
      have hfT := eq_true hf
      simp only [↓vsd, vsn, gW, qd, qv, ev, pick, argE, zipE, ne_eq, eq_self, forall_const, implies_true, if_true, if_false, reduceIte, reduceCtorEq, Nat.reduceEqDiff, Nat.reduceAdd, Nat.reduceLT, ↓us_sl6Group, r_sl6Group, hfT, hq1.facts, a1, hr0l]
      refine ⟨by omega, m_call (sl6Seen_ok n (by omega) _) ?_⟩
      rintro z w2 hx2 hoz
      have hx2 : Ext w1 w2 := by first | exact hx2 | exact ud hx2 | exact ud (ud hx2)
      have hx12 := hx1.trans hx2
      have hq2 := h.ext hx12
      simp only [↓vsd, vsn, gW, qd, qv, ev, pick, argE, zipE, ne_eq, eq_self, forall_const, implies_true, if_true, if_false, reduceIte, reduceCtorEq, Nat.reduceEqDiff, Nat.reduceAdd, Nat.reduceLT, ↓us_sl6Group, r_sl6Group, hq2.facts]
      refine m_upto l.length (fun k vs w' => ∃ B, vs = [.int .i64 k] ∧ Own fB 1 4 w.heap.size w' z B ∧ SeenAt n (l.take k) B ∧ Ext w w') ⟨_, rfl, hoz.mono hx1.size, by rw [List.take_zero]; exact SeenAt.none n, hx12⟩ ?_
      rintro k vs w3 hk ⟨B, rfl, hz3, hS3, hx3⟩
      have hq3 := h.ext hx3
      by_cases hlt : k < l.length
      · have hltI : (k : Int) < l.length := by omega
        have hltJ : ¬ (l.length : Int) ≤ k := by omega
        have a3 := hq3.at1 [] hlt
        have hm := hn _ (getD_mem [] hlt)
        have hS4 := seen_step hS3 hlt hn
        have hrk := rankL_lt (l.getD k [])
        rw [hm.2, ← hS3.1] at hrk
        have hfac := hS3.1
        generalize l.getD k [] = r at *
        simp only [↓vsd, vsn, gW, qd, qv, ev, pick, argE, zipE, ne_eq, eq_self, forall_const, implies_true, if_true, if_false, reduceIte, reduceCtorEq, Nat.reduceEqDiff, Nat.reduceAdd, Nat.reduceLT, ↓us_sl6Group, r_sl6Group, hltI, hltJ, hq3.facts, a3]
        refine ⟨by omega, m_call (sl1Place_ok r (by omega) _) ?_⟩
        rintro _ w4 hx4 rfl
        have hx4 : Ext w3 w4 := by first | exact hx4 | exact ud hx4 | exact ud (ud hx4)
        have hz4 := hz3.ext hx4
        simp only [↓vsd, vsn, gW, qd, qv, ev, pick, argE, zipE, ne_eq, eq_self, forall_const, implies_true, if_true, if_false, reduceIte, reduceCtorEq, Nat.reduceEqDiff, Nat.reduceAdd, Nat.reduceLT, ↓us_sl6Group, r_sl6Group, hz4.sq.facts]
        refine ⟨by omega, m_set1 (rankL r) true hz4 rfl hrk rfl fB_one ?_⟩
        rintro w5 hz5 hg5 _
        have hx5 : Ext w w5 := hz4.grown (hx3.trans hx4) (Nat.le_refl _) hg5
        simp only [↓vsd, vsn, gW, qd, qv, ev, pick, argE, zipE, ne_eq, eq_self, forall_const, implies_true, if_true, if_false, reduceIte, reduceCtorEq, Nat.reduceEqDiff, Nat.reduceAdd, Nat.reduceLT, ↓us_sl6Group, r_sl6Group]
        exact ⟨inR_i64 (by omega), UpTo.next hlt ⟨_, rfl, hz5, hS4, hx5⟩⟩
      · obtain rfl : k = l.length := by omega
        have hltI : ¬ (l.length : Int) < l.length := by omega
        rw [List.take_length] at hS3
        simp only [↓vsd, vsn, gW, qd, qv, ev, pick, argE, zipE, ne_eq, eq_self, forall_const, implies_true, if_true, if_false, reduceIte, reduceCtorEq, Nat.reduceEqDiff, Nat.reduceAdd, Nat.reduceLT, ↓us_sl6Group, r_sl6Group, hltI, hq3.facts]
        refine m_upto l.length (fun i vs w' => vs = [.int .i64 i] ∧ (∀ a ∈ l.take i, ∀ b ∈ l, timesL a b ∈ l) ∧ Ext w3 w') ⟨rfl, (fun a ha => by simp at ha), Ext.refl _⟩ ?_
        rintro i vs w4 hi ⟨rfl, hall, hx4⟩
        have hx04 := hx3.trans hx4
        have hq4 := h.ext hx04
        by_cases hli : i < l.length
        · have hliI : (i : Int) < l.length := by omega
          have hliJ : ¬ (l.length : Int) ≤ i := by omega
          have a4 := hq4.at1 [] hli
          have ham := getD_mem [] hli
          have har := hn _ ham
          have htk : ∀ a ∈ l.take (i + 1), a ∈ l.take i ∨ a = l.getD i [] := fun a ha => mem_take hli ha
          generalize l.getD i [] = a at *
          simp only [↓vsd, vsn, gW, qd, qv, ev, pick, argE, zipE, ne_eq, eq_self, forall_const, implies_true, if_true, if_false, reduceIte, reduceCtorEq, Nat.reduceEqDiff, Nat.reduceAdd, Nat.reduceLT, ↓us_sl6Group, r_sl6Group, hliI, hliJ, hq4.facts, a4]
          refine ⟨by omega, ?_⟩
          refine m_upto l.length (fun j vs w' => vs = [.int .i64 j] ∧ (∀ b ∈ l.take j, timesL a b ∈ l) ∧ Ext w3 w') ⟨rfl, (fun b hb => by simp at hb), by first | exact hx4 | exact dr hx4⟩ ?_
          rintro j vs w5 hj ⟨rfl, hin, hx5⟩
          have hq5 := h.ext (hx3.trans hx5)
          by_cases hlj : j < l.length
          · have hljI : (j : Int) < l.length := by omega
            have hljJ : ¬ (l.length : Int) ≤ j := by omega
            have a5 := hq5.at1 [] hlj
            have hbm := getD_mem [] hlj
            have hbr := hn _ hbm
            have htj : ∀ b ∈ l.take (j + 1), b ∈ l.take j ∨ b = l.getD j [] := fun b hb => mem_take hlj hb
            generalize l.getD j [] = b at *
            simp only [↓vsd, vsn, gW, qd, qv, ev, pick, argE, zipE, ne_eq, eq_self, forall_const, implies_true, if_true, if_false, reduceIte, reduceCtorEq, Nat.reduceEqDiff, Nat.reduceAdd, Nat.reduceLT, ↓us_sl6Group, r_sl6Group, hljI, hljJ, hq5.facts, a5]
            refine ⟨by omega, m_call (sl1Times_ok a b hbr.1 (by rw [har.2, hbr.2]) _) ?_⟩
            rintro _ w6 hx6 rfl
            have hx6 : Ext w5 w6 := by first | exact hx6 | exact ud hx6 | exact ud (ud hx6)
            have htl : (timesL a b).length = n := by rw [timesL_len, hbr.2]
            have htr := timesL_row har.1 hbr.1 (by rw [har.2, hbr.2])
            simp only [↓vsd, vsn, gW, qd, qv, ev, pick, argE, zipE, ne_eq, eq_self, forall_const, implies_true, if_true, if_false, reduceIte, reduceCtorEq, Nat.reduceEqDiff, Nat.reduceAdd, Nat.reduceLT, ↓us_sl6Group, r_sl6Group]
            refine m_call (sl1Place_ok (timesL a b) (by omega) _) ?_
            rintro _ w7 hx7 rfl
            have hx7 : Ext w6 w7 := by first | exact hx7 | exact ud hx7 | exact ud (ud hx7)
            have hx57 := (hx5.trans hx6).trans hx7
            have hz7 := hz3.ext hx57
            have hrk := rankL_lt (timesL a b)
            rw [htl, ← hS3.1] at hrk
            have hfac := hS3.1
            have a7 := hz7.sq.at1 false hrk
            rw [hS3.2 _ htr htl] at a7
            by_cases hin2 : timesL a b ∈ l
            · have hd : decide (timesL a b ∈ l) = true := decide_eq_true hin2
              simp only [↓vsd, vsn, gW, qd, qv, ev, pick, argE, zipE, ne_eq, eq_self, forall_const, implies_true, if_true, if_false, reduceIte, reduceCtorEq, Nat.reduceEqDiff, Nat.reduceAdd, Nat.reduceLT, ↓us_sl6Group, r_sl6Group, hz7.sq.facts, a7, hd]
              exact ⟨by omega, inR_i64 (by omega), UpTo.next hlj ⟨rfl, fun c hc => by
                rcases htj c hc with h1 | h1
                · exact hin c h1
                · rw [h1]; exact hin2, hx57⟩⟩
            · have hd : decide (timesL a b ∈ l) = false := decide_eq_false hin2
              simp only [↓vsd, vsn, gW, qd, qv, ev, pick, argE, zipE, ne_eq, eq_self, forall_const, implies_true, if_true, if_false, reduceIte, reduceCtorEq, Nat.reduceEqDiff, Nat.reduceAdd, Nat.reduceLT, ↓us_sl6Group, r_sl6Group, hz7.sq.facts, a7, hd]
              exact ⟨by omega, hx3.trans hx57, (decide_eq_false fun hh => hin2 (hh.2.2 a ham b hbm)).symm⟩
          · obtain rfl : j = l.length := by omega
            have hljI : ¬ (l.length : Int) < l.length := by omega
            rw [List.take_length] at hin
            simp only [↓vsd, vsn, gW, qd, qv, ev, pick, argE, zipE, ne_eq, eq_self, forall_const, implies_true, if_true, if_false, reduceIte, reduceCtorEq, Nat.reduceEqDiff, Nat.reduceAdd, Nat.reduceLT, ↓us_sl6Group, r_sl6Group, hljI]
            exact ⟨inR_i64 (by omega), UpTo.next hli ⟨rfl, fun c hc => by
              rcases htk c hc with h1 | h1
              · exact hall c h1
              · rw [h1]; exact hin, hx5⟩⟩
        · obtain rfl : i = l.length := by omega
          have hliI : ¬ (l.length : Int) < l.length := by omega
          rw [List.take_length] at hall
          simp only [↓vsd, vsn, gW, qd, qv, ev, pick, argE, zipE, ne_eq, eq_self, forall_const, implies_true, if_true, if_false, reduceIte, reduceCtorEq, Nat.reduceEqDiff, Nat.reduceAdd, Nat.reduceLT, ↓us_sl6Group, r_sl6Group, hliI]
          exact ⟨hx04, (decide_eq_true (hgd.2 ⟨hf, hall⟩)).symm⟩
    · have hfF := eq_false hf
      simp only [↓vsd, vsn, gW, qd, qv, ev, pick, argE, zipE, ne_eq, eq_self, forall_const, implies_true, if_true, if_false, reduceIte, reduceCtorEq, Nat.reduceEqDiff, Nat.reduceAdd, Nat.reduceLT, ↓us_sl6Group, r_sl6Group, hfF]
      exact ⟨hx1, (decide_eq_false fun hh => hf (hgd.1 hh).1).symm⟩
  · have h0I : (l.length : Int) = 0 := by omega
    simp only [↓vsd, vsn, gW, qd, qv, ev, pick, argE, zipE, ne_eq, eq_self, forall_const, implies_true, if_true, if_false, reduceIte, reduceCtorEq, Nat.reduceEqDiff, Nat.reduceAdd, Nat.reduceLT, ↓us_sl6Group, r_sl6Group, h.facts, h0I]
    exact ⟨Ext.refl _, (decide_eq_false fun hh => h0 hh.1).symm⟩
theorem clo_none (e : Bs) (m : Nat) : clo [] e m = [e] := by
  induction m with
  | zero => rfl
  | succ m ih =>
    rw [clo, ih]
    split <;> rfl
theorem gen_none (e : Bs) {m : Nat} (hm : 1 ≤ m) : GenOk [] e m ∧ genV [] e m = [e] := by
  have h : GenOk [] e m := by unfold GenOk; rw [clo_none]; exact hm
  exact ⟨h, by rw [genV, if_pos h, clo_none, ← srt_small (by simp)]⟩
/-- The rising rows l are a group. -/
def RGrp (l : List Bs) : Prop := Rise l ∧ GrpL l
instance (l : List Bs) : Decidable (RGrp l) := by unfold RGrp; infer_instance
theorem iisGroup_ok (v : Value) (l : List Bs) (hr : IsRows l) (w : World) (h : Sq fS 1 w v l) : Fn 226 [v] w (fun x _ => x = .bool (decide (RGrp l))) := by
  (refine callsV_of mix Try.func226 c_iisGroup ?_; simp only [↓vsd, vsn, gW, qd, qv, ev, pick, argE, zipE, ne_eq, eq_self, forall_const, implies_true, if_true, if_false, reduceIte, reduceCtorEq, Nat.reduceEqDiff, Nat.reduceAdd, Nat.reduceLT, ↓us_iisGroup, r_iisGroup])
  have h8 := hr.2
  by_cases h0 : 0 < l.length
  · have h0I : ¬ (l.length : Int) = 0 := by omega
    have hs := hr.stage h0
    have hn := hr.n
    have hmem := getD_mem [] h0
    have hgd : GrpL l ↔ l.getD 0 [] = roundsL (stgL l) ∧ ∀ a ∈ l, ∀ b ∈ l, timesL a b ∈ l := ⟨fun hh => hh.2, fun hh => ⟨h0, hh⟩⟩
    have hr0 := hn _ hmem
    generalize hn0 : stgL l = n at *
    simp only [↓vsd, vsn, gW, qd, qv, ev, pick, argE, zipE, ne_eq, eq_self, forall_const, implies_true, if_true, if_false, reduceIte, reduceCtorEq, Nat.reduceEqDiff, Nat.reduceAdd, Nat.reduceLT, ↓us_iisGroup, r_iisGroup, h0I, h.facts]
    refine m_call (iincreasing_ok v l (by omega) _ h) ?_
    rintro _ w1 hx1 rfl
    have hx1 : Ext w w1 := by first | exact hx1 | exact ud hx1 | exact ud (ud hx1)
    by_cases hri : Rise l
    · have hq1 := h.ext hx1
      have a1 := hq1.at0 [] h0
      have a0 := h.at0 [] h0
      generalize hl0 : l.getD 0 [] = r0 at *
      have hr0l := hr0.2
      have hnol : ∀ {p : Prop} [Decidable p], (p ↔ GrpL l) → decide p = decide (RGrp l) := fun hp => decide_eq_decide.2 (hp.trans ⟨fun hh => ⟨hri, hh⟩, fun hh => hh.2⟩)
      have hnoF : ¬ GrpL l → false = decide (RGrp l) := fun hno => (decide_eq_false fun hh : RGrp l => hno hh.2).symm
      simp only [↓vsd, vsn, gW, qd, qv, ev, pick, argE, zipE, ne_eq, eq_self, forall_const, implies_true, if_true, if_false, reduceIte, reduceCtorEq, Nat.reduceEqDiff, Nat.reduceAdd, Nat.reduceLT, ↓us_iisGroup, r_iisGroup, hri, hq1.facts, a1, a0, hr0l]
      refine ⟨by omega, by omega, m_call (irounds_ok n (by omega) _) ?_⟩
      rintro _ w2 hx2 rfl
      have hx2 : Ext w1 w2 := by first | exact hx2 | exact ud hx2 | exact ud (ud hx2)
      have hx12 := hx1.trans hx2
      have hq2 := h.ext hx12
      by_cases hf : r0 = roundsL n
      · have hfT := eq_true hf
        simp only [↓vsd, vsn, gW, qd, qv, ev, pick, argE, zipE, ne_eq, eq_self, forall_const, implies_true, if_true, if_false, reduceIte, reduceCtorEq, Nat.reduceEqDiff, Nat.reduceAdd, Nat.reduceLT, ↓us_iisGroup, r_iisGroup, hfT]
        refine m_bsl (by simp) ?_
        rintro b3 w3 hb3 hblk3 hx3 hs3
        have hx13 := hx12.trans hx3
        have hq3 := h.ext hx13
        have a3 := hq3.at0 [] h0
        rw [hl0] at a3
        simp only [↓vsd, vsn, gW, qd, qv, ev, pick, argE, zipE, ne_eq, eq_self, forall_const, implies_true, if_true, if_false, reduceIte, reduceCtorEq, Nat.reduceEqDiff, Nat.reduceAdd, Nat.reduceLT, ↓us_iisGroup, r_iisGroup, hq3.facts, a3]
        refine ⟨by omega, m_bsl (one_el rfl) ?_⟩
        rintro b4 w4 hb4 hblk4 hx4 hs4
        have hx4 : Ext w3 w4 := by first | exact hx4 | exact ud hx4 | exact ud (ud hx4)
        have hx14 := hx13.trans hx4
        have hq4 := h.ext hx14
        have ho4 : Own fS 1 9 w.heap.size w4 (.slice (some ⟨b4, 0, none⟩) 1 1) [r0] := Own.one fS_len hblk4 rfl (by have := hx13.size; omega)
        have hg4 : Own fS 1 9 w.heap.size w4 (.slice (some ⟨b3, 0, none⟩) 0 0) ([] : List Bs) := ((Own.empty fS_len hblk3 (by have := hx12.size; omega)).ext hx4).to rfl
        obtain ⟨hg1, hg2⟩ := gen_none (roundsL n) h0
        simp only [↓vsd, vsn, gW, qd, qv, ev, pick, argE, zipE, ne_eq, eq_self, forall_const, implies_true, if_true, if_false, reduceIte, reduceCtorEq, Nat.reduceEqDiff, Nat.reduceAdd, Nat.reduceLT, ↓us_iisGroup, r_iisGroup, hq4.facts]
        refine m_upto l.length (fun k vs w' => ∃ xg xp G, vs = [xg, xp, .int .i64 k] ∧ Own fS 1 9 w.heap.size w' xg G ∧ Own fS 1 9 w.heap.size w' xp (genV G (roundsL n) l.length) ∧ GenOk G (roundsL n) l.length ∧ (∀ g ∈ G, g ∈ l) ∧ G.length ≤ k ∧ (∀ r ∈ l.take k, r ∈ genV G (roundsL n) l.length) ∧ Ext w w') ⟨_, _, [], rfl, hg4, by rw [hg2, ← hf]; exact ho4, hg1, (fun g hg => by cases hg), Nat.zero_le _, (fun r hr => by simp at hr), hx14⟩ ?_
        rintro k vs w5 hk ⟨xg, xp, G, rfl, hog, hop, hok, hGl, hGk, hall, hx5⟩
        have hq5 := h.ext hx5
        have hplen := genV_len G (roundsL n) l.length
        by_cases hlt : k < l.length
        · have hltI : (k : Int) < l.length := by omega
          have hltJ : ¬ (l.length : Int) ≤ k := by omega
          have a5 := hq5.at1 [] hlt
          have hrm := getD_mem [] hlt
          have hrr := hn _ hrm
          have htk : ∀ a ∈ l.take (k + 1), a ∈ l.take k ∨ a = l.getD k [] := fun a ha => mem_take hlt ha
          generalize l.getD k [] = r at *
          simp only [↓vsd, vsn, gW, qd, qv, ev, pick, argE, zipE, ne_eq, eq_self, forall_const, implies_true, if_true, if_false, reduceIte, reduceCtorEq, Nat.reduceEqDiff, Nat.reduceAdd, Nat.reduceLT, ↓us_iisGroup, r_iisGroup, hltI, hltJ, hq5.facts, a5]
          refine ⟨by omega, m_call (ihas_ok xp (genV G (roundsL n) l.length) r (by omega) (genV_rise _ _ _).sorted _ (by first | exact hop.sq | exact hop.sq.ext (dr (Ext.refl _)))) ?_⟩
          rintro _ w6 hx6 rfl
          have hx6 : Ext w5 w6 := by first | exact hx6 | exact ud hx6 | exact ud (ud hx6)
          have hx06 := hx5.trans hx6
          by_cases hin : r ∈ genV G (roundsL n) l.length
          · simp only [↓vsd, vsn, gW, qd, qv, ev, pick, argE, zipE, ne_eq, eq_self, forall_const, implies_true, if_true, if_false, reduceIte, reduceCtorEq, Nat.reduceEqDiff, Nat.reduceAdd, Nat.reduceLT, ↓us_iisGroup, r_iisGroup, hin]
            exact ⟨inR_i64 (by omega), UpTo.next hlt ⟨xg, xp, G, rfl, hog.ext hx6, hop.ext hx6, hok, hGl, by omega, fun c hc => by
              rcases htk c hc with h1 | h1
              · exact hall c h1
              · rw [h1]; exact hin, hx06⟩⟩
          · simp only [↓vsd, vsn, gW, qd, qv, ev, pick, argE, zipE, ne_eq, eq_self, forall_const, implies_true, if_true, if_false, reduceIte, reduceCtorEq, Nat.reduceEqDiff, Nat.reduceAdd, Nat.reduceLT, ↓us_iisGroup, r_iisGroup, hin]
            refine m_bsl (one_el rfl) ?_
            rintro b7 w7 hb7 hblk7 hx7 hs7
            have hx7 : Ext w6 w7 := by first | exact hx7 | exact ud hx7 | exact ud (ud hx7)
            have hx67 := hx6.trans hx7
            simp only [↓vsd, vsn, gW, qd, qv, ev, pick, argE, zipE, ne_eq, eq_self, forall_const, implies_true, if_true, if_false, reduceIte, reduceCtorEq, Nat.reduceEqDiff, Nat.reduceAdd, Nat.reduceLT, ↓us_iisGroup, r_iisGroup]
            refine m_app (hog.ext hx67) (Sq.one fS_len hblk7 rfl) fS_one (by decide) (by simp; omega) (by decide) (hx5.trans hx67).size ?_
            rintro xg8 w8 hog8 hgg8
            have hx8 := (hog.ext hx67).grown (hx5.trans hx67) (Nat.le_refl _) hgg8
            have hGl8 : ∀ g ∈ G ++ [r], g ∈ l := fun g hg => by
              rcases List.mem_append.1 hg with h1 | h1
              · exact hGl g h1
              · rw [List.mem_singleton.1 h1]; exact hrm
            have hrl := hrr.2
            have hq8 := h.ext hx8
            simp only [↓vsd, vsn, gW, qd, qv, ev, pick, argE, zipE, ne_eq, eq_self, forall_const, implies_true, if_true, if_false, reduceIte, reduceCtorEq, Nat.reduceEqDiff, Nat.reduceAdd, Nat.reduceLT, ↓us_iisGroup, r_iisGroup, hq8.facts, hrl]
            refine m_call (igenerated_ok n (by omega) xg8 (G ++ [r]) l.length (fun g hg => hn g (hGl8 g hg)) (by simp; omega) (by omega) _ hog8.sq) ?_
            rintro _ w9 hx9 ⟨xp9, rfl, hop9⟩
            have hx9 : Ext w8 w9 := by first | exact hx9 | exact ud hx9 | exact ud (ud hx9)
            have hx09 := hx8.trans hx9
            by_cases hok9 : GenOk (G ++ [r]) (roundsL n) l.length
            · have hmore := gen_more (m := l.length) hok9 (gens := G) (fun g hg => List.mem_append_left _ hg)
              have hhas := gen_has (m := l.length) (fun g hg => hn g (hGl8 g hg)) hok9 (g := r) (by simp)
              simp only [↓vsd, vsn, gW, qd, qv, ev, pick, argE, zipE, ne_eq, eq_self, forall_const, implies_true, if_true, if_false, reduceIte, reduceCtorEq, Nat.reduceEqDiff, Nat.reduceAdd, Nat.reduceLT, ↓us_iisGroup, r_iisGroup, hok9]
              exact ⟨inR_i64 (by omega), UpTo.next hlt ⟨xg8, xp9, G ++ [r], rfl, hog8.ext hx9, hop9.mono hx8.size, hok9, hGl8, by simp; omega, fun c hc => by
                rw [genV_mem hok9]
                rcases htk c hc with h1 | h1
                · exact hmore c ((genV_mem hok c).1 (hall c h1))
                · rw [h1]; exact hhas, hx09⟩⟩
            · simp only [↓vsd, vsn, gW, qd, qv, ev, pick, argE, zipE, ne_eq, eq_self, forall_const, implies_true, if_true, if_false, reduceIte, reduceCtorEq, Nat.reduceEqDiff, Nat.reduceAdd, Nat.reduceLT, ↓us_iisGroup, r_iisGroup, hok9]
              exact ⟨hx09, hnoF (isgrp_fail hn hri hGl8 hok9)⟩
        · obtain rfl : k = l.length := by omega
          have hltI : ¬ (l.length : Int) < l.length := by omega
          rw [List.take_length] at hall
          simp only [↓vsd, vsn, gW, qd, qv, ev, pick, argE, zipE, ne_eq, eq_self, forall_const, implies_true, if_true, if_false, reduceIte, reduceCtorEq, Nat.reduceEqDiff, Nat.reduceAdd, Nat.reduceLT, ↓us_iisGroup, r_iisGroup, hltI]
          refine m_call (xslices_Equal_okp xp v _ _ _ hop.sq hq5 (by omega)) ?_
          rintro _ w6 hx6 rfl
          simp only [↓vsd, vsn, gW, qd, qv, ev, pick, argE, zipE, ne_eq, eq_self, forall_const, implies_true, if_true, if_false, reduceIte, reduceCtorEq, Nat.reduceEqDiff, Nat.reduceAdd, Nat.reduceLT, ↓us_iisGroup, r_iisGroup]
          exact ⟨hx5.trans hx6, by rw [hnol (isgrp_end (by omega) hn hri hGl hok hall)]⟩
      · have hfF := eq_false hf
        simp only [↓vsd, vsn, gW, qd, qv, ev, pick, argE, zipE, ne_eq, eq_self, forall_const, implies_true, if_true, if_false, reduceIte, reduceCtorEq, Nat.reduceEqDiff, Nat.reduceAdd, Nat.reduceLT, ↓us_iisGroup, r_iisGroup, hfF]
        exact ⟨hx12, hnoF fun hh => hf (hgd.1 hh).1⟩
    · simp only [↓vsd, vsn, gW, qd, qv, ev, pick, argE, zipE, ne_eq, eq_self, forall_const, implies_true, if_true, if_false, reduceIte, reduceCtorEq, Nat.reduceEqDiff, Nat.reduceAdd, Nat.reduceLT, ↓us_iisGroup, r_iisGroup, hri]
      exact ⟨hx1, (decide_eq_false fun hh : RGrp l => hri hh.1).symm⟩
  · have h0I : (l.length : Int) = 0 := by omega
    simp only [↓vsd, vsn, gW, qd, qv, ev, pick, argE, zipE, ne_eq, eq_self, forall_const, implies_true, if_true, if_false, reduceIte, reduceCtorEq, Nat.reduceEqDiff, Nat.reduceAdd, Nat.reduceLT, ↓us_iisGroup, r_iisGroup, h.facts, h0I]
    exact ⟨Ext.refl _, (decide_eq_false fun hh : RGrp l => h0 hh.2.1).symm⟩
/-- The answer of the test of a group. -/
def isGrV (l : List Bs) : Value := .tuple ⟨[.bool (decide (IsRows l ∧ Rise l ∧ GrpL l)), .bool (decide (IsRows l ∧ Rise l))]⟩
theorem iIsGroup_ok (v : Value) (l : List Bs) (hl : l.length ≤ 1000000000) (w : World) (h : Sq fS 1 w v l) : Fn 110 [v] w (fun x _ => x = isGrV l) := by
  (refine callsV_of mix Try.func110 c_iIsGroup ?_; simp only [↓vsd, vsn, gW, qd, qv, ev, pick, argE, zipE, ne_eq, eq_self, forall_const, implies_true, if_true, if_false, reduceIte, reduceCtorEq, Nat.reduceEqDiff, Nat.reduceAdd, Nat.reduceLT, ↓us_iIsGroup, r_iIsGroup])
  refine m_call (iGoodRows_ok v l hl _ h) ?_
  rintro _ w1 hx1 rfl
  have hq1 := h.ext hx1
  by_cases hr : IsRows l
  · simp only [↓vsd, vsn, gW, qd, qv, ev, pick, argE, zipE, ne_eq, eq_self, forall_const, implies_true, if_true, if_false, reduceIte, reduceCtorEq, Nat.reduceEqDiff, Nat.reduceAdd, Nat.reduceLT, ↓us_iIsGroup, r_iIsGroup, hr]
    refine m_call (iincreasing_ok v l hl _ hq1) ?_
    rintro _ w2 hx2 rfl
    have hx2 : Ext w1 w2 := by first | exact hx2 | exact ud hx2 | exact ud (ud hx2)
    have hx12 := hx1.trans hx2
    by_cases hri : Rise l
    · simp only [↓vsd, vsn, gW, qd, qv, ev, pick, argE, zipE, ne_eq, eq_self, forall_const, implies_true, if_true, if_false, reduceIte, reduceCtorEq, Nat.reduceEqDiff, Nat.reduceAdd, Nat.reduceLT, ↓us_iIsGroup, r_iIsGroup, hri]
      refine m_call (iisGroup_ok v l hr _ (h.ext hx12)) ?_
      rintro _ w3 hx3 rfl
      have hx3 : Ext w2 w3 := by first | exact hx3 | exact ud hx3 | exact ud (ud hx3)
      simp only [↓vsd, vsn, gW, qd, qv, ev, pick, argE, zipE, ne_eq, eq_self, forall_const, implies_true, if_true, if_false, reduceIte, reduceCtorEq, Nat.reduceEqDiff, Nat.reduceAdd, Nat.reduceLT, ↓us_iIsGroup, r_iIsGroup]
      exact ⟨hx12.trans hx3, by unfold isGrV RGrp; simp only [hr, hri, true_and, decide_true]⟩
    · simp only [↓vsd, vsn, gW, qd, qv, ev, pick, argE, zipE, ne_eq, eq_self, forall_const, implies_true, if_true, if_false, reduceIte, reduceCtorEq, Nat.reduceEqDiff, Nat.reduceAdd, Nat.reduceLT, ↓us_iIsGroup, r_iIsGroup, hri]
      exact ⟨hx12, by unfold isGrV; simp only [hri, false_and, and_false, decide_false]⟩
  · simp only [↓vsd, vsn, gW, qd, qv, ev, pick, argE, zipE, ne_eq, eq_self, forall_const, implies_true, if_true, if_false, reduceIte, reduceCtorEq, Nat.reduceEqDiff, Nat.reduceAdd, Nat.reduceLT, ↓us_iIsGroup, r_iIsGroup, hr]
    exact ⟨hx1, by unfold isGrV; simp only [hr, false_and, decide_false]⟩
theorem sIsGroup_ok (v : Value) (l : List Bs) (hl : l.length ≤ 1000000000) (w : World) (h : Sq fS 1 w v l) : Fn 113 [v] w (fun x _ => x = isGrV l) := by
  (refine callsV_of mix Try.func113 c_sIsGroup ?_; simp only [↓vsd, vsn, gW, qd, qv, ev, pick, argE, zipE, ne_eq, eq_self, forall_const, implies_true, if_true, if_false, reduceIte, reduceCtorEq, Nat.reduceEqDiff, Nat.reduceAdd, Nat.reduceLT, ↓us_sIsGroup, r_sIsGroup])
  refine m_call (sl6Rising_ok v l hl _ h) ?_
  rintro _ w1 hx1 rfl
  have hq1 := h.ext hx1
  by_cases hr : Rise l ∧ IsRows l
  · simp only [↓vsd, vsn, gW, qd, qv, ev, pick, argE, zipE, ne_eq, eq_self, forall_const, implies_true, if_true, if_false, reduceIte, reduceCtorEq, Nat.reduceEqDiff, Nat.reduceAdd, Nat.reduceLT, ↓us_sIsGroup, r_sIsGroup, hr]
    refine m_call (sl6Group_ok v l hr.2 _ hq1) ?_
    rintro _ w2 hx2 rfl
    simp only [↓vsd, vsn, gW, qd, qv, ev, pick, argE, zipE, ne_eq, eq_self, forall_const, implies_true, if_true, if_false, reduceIte, reduceCtorEq, Nat.reduceEqDiff, Nat.reduceAdd, Nat.reduceLT, ↓us_sIsGroup, r_sIsGroup]
    exact ⟨hx1.trans hx2, by unfold isGrV; simp only [hr.1, hr.2, true_and, and_self, decide_true]⟩
  · simp only [↓vsd, vsn, gW, qd, qv, ev, pick, argE, zipE, ne_eq, eq_self, forall_const, implies_true, if_true, if_false, reduceIte, reduceCtorEq, Nat.reduceEqDiff, Nat.reduceAdd, Nat.reduceLT, ↓us_sIsGroup, r_sIsGroup, hr]
    refine ⟨hx1, ?_⟩
    unfold isGrV
    rw [decide_eq_false (fun hh => hr ⟨hh.2.1, hh.1⟩), decide_eq_false (fun hh => hr ⟨hh.2, hh.1⟩)]
end Go.Proofs.Ytnincmnkdjlndaa
