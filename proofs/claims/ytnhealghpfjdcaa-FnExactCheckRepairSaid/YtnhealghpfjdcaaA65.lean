/-
  Is a repair right, of both sides.
  Conditions: none.
-/
import Derived.Test.YtnhealghpfjdcaaA60
import Derived.Test.YtnhealghpfjdcaaA33
set_option linter.unusedSimpArgs false
set_option linter.unusedVariables false
set_option linter.defProp false
namespace Go.Proofs.Ytnhealghpfjdcaa
open Go Go.RowKit
section
variable (P : Program) (k : KT) (e : Env) (w : World)
abbrev b90_1 : X := (.cond (.t 10) (.seq (.reg [4] (.c (.q 4 [] (.mv (.c (.bool false)))) .nil)) .ret) .skip)
def t90_1 := b90_1
theorem u90_1 : vcK P t90_1 k e w = vcK P b90_1 k e w := rfl
abbrev b90_2 : X := (.cond (.t 24) (.seq (.reg [4] (.c (.q 4 [] (.mv (.c (.bool false)))) .nil)) .ret) .skip)
def t90_2 := b90_2
theorem u90_2 : vcK P t90_2 k e w = vcK P b90_2 k e w := rfl
abbrev b90_3 : X := (.seq (.drw [0, 1, 12, 13, 24] (.c (.q 16 [] (.mv (.t 0))) (.c (.q 17 [] (.mv (.t 5))) (.c (.q 18 [] (.ia 1 (.t 16) (.t 17))) (.c (.q 19 [] (.ld (.t 18))) (.c (.q 20 [] (.mv (.t 1))) (.c (.q 21 [] (.mv (.t 5))) (.c (.q 22 [] (.ia 1 (.t 20) (.t 21))) (.c (.q 23 [] (.ld (.t 22))) (.c (.q 24 [] (.bin .neq (.t 19) (.t 23))) .nil)))))))))) t90_2)
def t90_3 := b90_3
theorem u90_3 : vcK P t90_3 k e w = vcK P b90_3 k e w := rfl
abbrev b90_4 : X := (.reg [0, 1, 12, 13] (.c (.q 25 [] (.bin .add (.t 13) (.c (.int .i64 1)))) (.c (.q 13 [] (.mv (.t 25))) .nil)))
def t90_4 := b90_4
theorem u90_4 : vcK P t90_4 k e w = vcK P b90_4 k e w := rfl
abbrev b90_5 : X := (.seq (.blk 1 (.seq (.reg [0, 1, 5, 12, 13] (.c (.q 15 [] (.mv (.t 13))) (.c (.q 5 [] (.mv (.t 15))) .nil))) t90_3)) t90_4)
def t90_5 := b90_5
theorem u90_5 : vcK P t90_5 k e w = vcK P b90_5 k e w := rfl
abbrev b90_6 : X := (.seq (.cond (.t 14) .skip (.exit 0)) t90_5)
def t90_6 := b90_6
theorem u90_6 : vcK P t90_6 k e w = vcK P b90_6 k e w := rfl
abbrev b90_7 : X := (.seq (.reg [0, 1, 12, 13, 14] (.c (.q 14 [] (.bin .lss (.t 13) (.t 12))) .nil)) t90_6)
def t90_7 := b90_7
theorem u90_7 : vcK P t90_7 k e w = vcK P b90_7 k e w := rfl
abbrev b90_8 : X := (.blk 0 (.loop [13] [0, 1, 12] t90_7))
def t90_8 := b90_8
theorem u90_8 : vcK P t90_8 k e w = vcK P b90_8 k e w := rfl
abbrev b90_9 : X := (.seq (.reg [4] (.c (.q 4 [] (.mv (.c (.bool true)))) .nil)) .ret)
def t90_9 := b90_9
theorem u90_9 : vcK P t90_9 k e w = vcK P b90_9 k e w := rfl
abbrev b90_10 : X := (.seq (.seq (.reg [0, 1, 12, 13] (.c (.q 11 [] (.mv (.t 0))) (.c (.q 12 [] (.lens (.t 11))) (.c (.q 13 [] (.mv (.c (.int .i64 0)))) .nil)))) t90_8) t90_9)
def t90_10 := b90_10
theorem u90_10 : vcK P t90_10 k e w = vcK P b90_10 k e w := rfl
abbrev b90_11 : X := (.seq (.seq (.reg [0, 1, 10] (.c (.q 6 [] (.mv (.t 0))) (.c (.q 7 [] (.lens (.t 6))) (.c (.q 8 [] (.mv (.t 1))) (.c (.q 9 [] (.lens (.t 8))) (.c (.q 10 [] (.bin .neq (.t 7) (.t 9))) .nil)))))) t90_1) t90_10)
def t90_11 := b90_11
theorem u90_11 : vcK P t90_11 k e w = vcK P b90_11 k e w := rfl
abbrev b90_0 : X := (.seq (.reg [0, 1] (.c (.q 4 [] (.mv (.c (.bool false)))) .nil)) t90_11)
def x_xslices_Equal_string_string := b90_0
theorem u90_0 : vcK P x_xslices_Equal_string_string k e w = vcK P b90_0 k e w := rfl
def r_xslices_Equal_string_string : List XO := [(.mv (.t 4))]
theorem c_xslices_Equal_string_string : convF Try.prog [89, 116, 117, 121, 143, 161, 162, 163, 166, 168, 234] Try.f90 [([0, 1], []), ([0, 1, 10], []), ([4], []), ([0, 1, 12, 13], []), ([13], [0, 1, 12]), ([0, 1, 12, 13, 14], []), ([0, 1, 5, 12, 13], []), ([0, 1, 12, 13, 24], []), ([4], []), ([0, 1, 12, 13], []), ([4], [])] = some (x_xslices_Equal_string_string, r_xslices_Equal_string_string) := by kernel_rfl
def us_xslices_Equal_string_string := aI @u90_0 (aI @u90_1 (aI @u90_2 (aI @u90_3 (aI @u90_4 (aI @u90_5 (aI @u90_6 (aI @u90_7 (aI @u90_8 (aI @u90_9 (aI @u90_10 @u90_11))))))))))
abbrev b39_1 : X := (.cond (.t 40) (.seq (.reg [12] (.c (.q 12 [] (.mv (.c (.bool false)))) .nil)) .ret) .skip)
def t39_1 := b39_1
theorem u39_1 : vcK P t39_1 k e w = vcK P b39_1 k e w := rfl
abbrev b39_2 : X := (.cond (.t 48) (.seq (.reg [12] (.c (.q 12 [] (.mv (.c (.bool false)))) .nil)) .ret) .skip)
def t39_2 := b39_2
theorem u39_2 : vcK P t39_2 k e w = vcK P b39_2 k e w := rfl
abbrev b39_3 : X := (.cond (.t 62) (.reg [3, 4, 6, 7, 13, 14, 15, 16, 54, 55, 56] (.c (.q 63 [] (.lda 3 (.t 6))) (.c (.q 64 [] (.lda 2 (.t 7))) (.c (.e (some 65) [] (.call false 74 [(.t 63), (.t 64)])) (.c (.q 66 [] (.mv (.t 14))) (.c (.q 67 [] (.mv (.t 13))) (.c (.e (some 68) [] (.call true 89 [(.t 65), (.t 66), (.t 67)])) (.c (.q 14 [] (.mv (.t 68))) .nil)))))))) .skip)
def t39_3 := b39_3
theorem u39_3 : vcK P t39_3 k e w = vcK P b39_3 k e w := rfl
abbrev b39_4 : X := (.cond (.t 82) (.seq (.reg [12] (.c (.q 12 [] (.mv (.c (.bool false)))) .nil)) .ret) .skip)
def t39_4 := b39_4
theorem u39_4 : vcK P t39_4 k e w = vcK P b39_4 k e w := rfl
abbrev b39_5 : X := (.seq (.reg [3, 4, 6, 7, 13, 14, 54, 55, 56, 82] (.c (.q 69 [] (.mv (.t 14))) (.c (.q 70 [] (.mv (.t 16))) (.c (.e (some 71) [] (.call false 90 [(.t 69), (.t 70)])) (.c (.q 72 [] (.not (.t 71))) (.c (.q 73 [] (.mv (.t 72))) (.c (.q 74 [(73, false)] (.mv (.t 14))) (.c (.q 75 [(73, false)] (.mv (.t 3))) (.c (.e (some 76) [(73, false)] (.call false 91 [(.t 74), (.t 75)])) (.c (.q 77 [(73, false)] (.mv (.t 15))) (.c (.q 78 [(73, false)] (.mv (.t 4))) (.c (.q 79 [(73, false)] (.len (.t 78))) (.c (.q 80 [(73, false)] (.bin .eql (.t 77) (.t 79))) (.c (.q 81 [(73, false)] (.beq true (.t 76) (.t 80))) (.c (.q 82 [] (.pick (.t 73) (.c (.bool true)) (.t 81))) .nil))))))))))))))) t39_4)
def t39_5 := b39_5
theorem u39_5 : vcK P t39_5 k e w = vcK P b39_5 k e w := rfl
abbrev b39_6 : X := (.seq (.seq (.reg [3, 4, 6, 7, 13, 14, 15, 16, 54, 55, 56, 62] (.c (.q 61 [] (.mv (.t 15))) (.c (.q 62 [] (.bin .gtr (.t 61) (.c (.int .i64 0)))) .nil))) t39_3) t39_5)
def t39_6 := b39_6
theorem u39_6 : vcK P t39_6 k e w = vcK P b39_6 k e w := rfl
abbrev b39_7 : X := (.reg [3, 4, 6, 7, 13, 14, 54, 55, 56] (.c (.q 83 [] (.bin .add (.t 56) (.c (.int .i64 1)))) (.c (.q 56 [] (.mv (.t 83))) .nil)))
def t39_7 := b39_7
theorem u39_7 : vcK P t39_7 k e w = vcK P b39_7 k e w := rfl
abbrev b39_8 : X := (.seq (.blk 1 (.seq (.reg [3, 4, 6, 7, 13, 14, 15, 16, 54, 55, 56] (.c (.q 58 [] (.mv (.t 56))) (.c (.q 59 [] (.ia 1 (.t 54) (.t 56))) (.c (.q 60 [] (.ld (.t 59))) (.c (.q 15 [] (.mv (.t 58))) (.c (.q 16 [] (.mv (.t 60))) .nil)))))) t39_6)) t39_7)
def t39_8 := b39_8
theorem u39_8 : vcK P t39_8 k e w = vcK P b39_8 k e w := rfl
abbrev b39_9 : X := (.seq (.cond (.t 57) .skip (.exit 0)) t39_8)
def t39_9 := b39_9
theorem u39_9 : vcK P t39_9 k e w = vcK P b39_9 k e w := rfl
abbrev b39_10 : X := (.seq (.reg [3, 4, 6, 7, 13, 14, 54, 55, 56, 57] (.c (.q 57 [] (.bin .lss (.t 56) (.t 55))) .nil)) t39_9)
def t39_10 := b39_10
theorem u39_10 : vcK P t39_10 k e w = vcK P b39_10 k e w := rfl
abbrev b39_11 : X := (.blk 0 (.loop [14, 56] [3, 4, 6, 7, 13, 54, 55] t39_10))
def t39_11 := b39_11
theorem u39_11 : vcK P t39_11 k e w = vcK P b39_11 k e w := rfl
abbrev b39_12 : X := (.seq (.reg [12] (.c (.q 12 [] (.mv (.c (.bool true)))) .nil)) .ret)
def t39_12 := b39_12
theorem u39_12 : vcK P t39_12 k e w = vcK P b39_12 k e w := rfl
abbrev b39_13 : X := (.seq (.seq (.reg [3, 4, 6, 7, 13, 14, 54, 55, 56] (.c (.q 54 [] (.mv (.t 5))) (.c (.q 55 [] (.lens (.t 54))) (.c (.q 56 [] (.mv (.c (.int .i64 0)))) .nil)))) t39_11) t39_12)
def t39_13 := b39_13
theorem u39_13 : vcK P t39_13 k e w = vcK P b39_13 k e w := rfl
abbrev b39_14 : X := (.seq (.reg [3, 4, 5, 6, 7, 13, 14] (.c (.q 52 [] (.mv (.t 2))) (.c (.e (some 53) [] (.bsl 9 1 [(.t 52)])) (.c (.q 14 [] (.mv (.t 53))) .nil)))) t39_13)
def t39_14 := b39_14
theorem u39_14 : vcK P t39_14 k e w = vcK P b39_14 k e w := rfl
abbrev b39_15 : X := (.seq (.reg [2, 3, 4, 5, 6, 7, 13] (.c (.e (some 49) [] .mkmap) (.c (.q 50 [] (.mv (.t 2))) (.c (.e none [] (.mup false .string (.t 49) (.t 50) (.c (.bool true)))) (.c (.q 51 [] (.mv (.t 49))) (.c (.q 13 [] (.mv (.t 51))) .nil)))))) t39_14)
def t39_15 := b39_15
theorem u39_15 : vcK P t39_15 k e w = vcK P b39_15 k e w := rfl
abbrev b39_16 : X := (.seq (.seq (.reg [2, 3, 4, 5, 6, 7, 48] (.c (.q 41 [] (.mv (.t 2))) (.c (.q 42 [] (.lda 3 (.t 6))) (.c (.q 43 [] (.lda 2 (.t 7))) (.c (.q 44 [] (.mv (.t 4))) (.c (.e (some 45) [] (.call false 88 [(.t 42), (.t 43), (.t 44)])) (.c (.e (some 46) [] (.call false 75 [(.t 41), (.t 45)])) (.c (.q 47 [] (.mv (.t 3))) (.c (.q 48 [] (.bin .neq (.t 46) (.t 47))) .nil))))))))) t39_2) t39_15)
def t39_16 := b39_16
theorem u39_16 : vcK P t39_16 k e w = vcK P b39_16 k e w := rfl
abbrev b39_17 : X := (.seq (.seq (.reg [2, 3, 4, 5, 6, 7, 40] (.c (.q 17 [] (.lda 3 (.t 6))) (.c (.q 18 [] (.lda 2 (.t 7))) (.c (.q 19 [] (.mv (.t 2))) (.c (.q 20 [] (.mv (.t 3))) (.c (.e (some 21) [] (.call false 72 [(.t 17), (.t 18), (.t 19), (.t 20)])) (.c (.q 22 [] (.not (.t 21))) (.c (.q 23 [] (.mv (.t 22))) (.c (.q 24 [(23, false)] (.mv (.t 4))) (.c (.e (some 25) [(23, false)] (.call false 87 [(.t 24)])) (.c (.q 26 [(23, false)] (.not (.t 25))) (.c (.q 27 [] (.pick (.t 23) (.c (.bool true)) (.t 26))) (.c (.q 28 [] (.mv (.t 27))) (.c (.q 29 [(28, false)] (.mv (.t 4))) (.c (.q 30 [(28, false)] (.len (.t 29))) (.c (.q 31 [(28, false)] (.bin .gtr (.t 30) (.c (.int .i64 8)))) (.c (.q 32 [] (.pick (.t 28) (.c (.bool true)) (.t 31))) (.c (.q 33 [] (.mv (.t 32))) (.c (.q 34 [(33, false)] (.mv (.t 5))) (.c (.q 35 [(33, false)] (.lens (.t 34))) (.c (.q 36 [(33, false)] (.mv (.t 4))) (.c (.q 37 [(33, false)] (.len (.t 36))) (.c (.q 38 [(33, false)] (.bin .add (.t 37) (.c (.int .i64 1)))) (.c (.q 39 [(33, false)] (.bin .neq (.t 35) (.t 38))) (.c (.q 40 [] (.pick (.t 33) (.c (.bool true)) (.t 39))) .nil))))))))))))))))))))))))) t39_1) t39_16)
def t39_17 := b39_17
theorem u39_17 : vcK P t39_17 k e w = vcK P b39_17 k e w := rfl
abbrev b39_0 : X := (.seq (.reg [2, 3, 4, 5, 6, 7] (.c (.e (some 6) [] (.box 31 (.t 0))) (.c (.e (some 7) [] (.box 33 (.t 1))) (.c (.q 12 [] (.mv (.c (.bool false)))) .nil)))) t39_17)
def x_iCheckRepair := b39_0
theorem u39_0 : vcK P x_iCheckRepair k e w = vcK P b39_0 k e w := rfl
def r_iCheckRepair : List XO := [(.mv (.t 12))]
theorem c_iCheckRepair : convF Try.prog [89, 116, 117, 121, 143, 161, 162, 163, 166, 168, 234] Try.f39 [([2, 3, 4, 5, 6, 7], []), ([2, 3, 4, 5, 6, 7, 40], []), ([12], []), ([2, 3, 4, 5, 6, 7, 48], []), ([12], []), ([2, 3, 4, 5, 6, 7, 13], []), ([3, 4, 5, 6, 7, 13, 14], []), ([3, 4, 6, 7, 13, 14, 54, 55, 56], []), ([14, 56], [3, 4, 6, 7, 13, 54, 55]), ([3, 4, 6, 7, 13, 14, 54, 55, 56, 57], []), ([3, 4, 6, 7, 13, 14, 15, 16, 54, 55, 56], []), ([3, 4, 6, 7, 13, 14, 15, 16, 54, 55, 56, 62], []), ([3, 4, 6, 7, 13, 14, 15, 16, 54, 55, 56], []), ([3, 4, 6, 7, 13, 14, 54, 55, 56, 82], []), ([12], []), ([3, 4, 6, 7, 13, 14, 54, 55, 56], []), ([12], [])] = some (x_iCheckRepair, r_iCheckRepair) := by kernel_rfl
def us_iCheckRepair := aI @u39_0 (aI @u39_1 (aI @u39_2 (aI @u39_3 (aI @u39_4 (aI @u39_5 (aI @u39_6 (aI @u39_7 (aI @u39_8 (aI @u39_9 (aI @u39_10 (aI @u39_11 (aI @u39_12 (aI @u39_13 (aI @u39_14 (aI @u39_15 (aI @u39_16 @u39_17))))))))))))))))
abbrev b37_1 : X := (.cond (.t 56) (.seq (.reg [12] (.c (.q 12 [] (.mv (.c (.bool false)))) .nil)) .ret) .skip)
def t37_1 := b37_1
theorem u37_1 : vcK P t37_1 k e w = vcK P b37_1 k e w := rfl
abbrev b37_2 : X := (.cond (.t 60) .skip (.exit 0))
def t37_2 := b37_2
theorem u37_2 : vcK P t37_2 k e w = vcK P b37_2 k e w := rfl
abbrev b37_3 : X := (.cond (.t 87) (.seq (.reg [12] (.c (.q 12 [] (.mv (.c (.bool false)))) .nil)) .ret) .skip)
def t37_3 := b37_3
theorem u37_3 : vcK P t37_3 k e w = vcK P b37_3 k e w := rfl
abbrev b37_4 : X := (.reg [3, 4, 5, 6, 7, 13] (.c (.q 61 [] (.mv (.t 13))) (.c (.q 62 [] (.bin .add (.t 61) (.c (.int .i64 1)))) (.c (.q 13 [] (.mv (.t 62))) .nil))))
def t37_4 := b37_4
theorem u37_4 : vcK P t37_4 k e w = vcK P b37_4 k e w := rfl
abbrev b37_5 : X := (.seq (.blk 1 (.seq (.drw [3, 4, 5, 6, 7, 13, 87] (.c (.q 63 [] (.mv (.t 5))) (.c (.q 64 [] (.mv (.t 13))) (.c (.q 65 [] (.ia 1 (.t 63) (.t 64))) (.c (.q 66 [] (.ld (.t 65))) (.c (.q 67 [] (.lda 3 (.t 6))) (.c (.q 68 [] (.lda 2 (.t 7))) (.c (.q 69 [] (.mv (.t 5))) (.c (.q 70 [] (.mv (.t 13))) (.c (.q 71 [] (.ssl 1 (.t 69) none (some (.t 70)))) (.c (.e (some 72) [] (.call false 85 [(.t 67), (.t 68), (.t 71)])) (.c (.e (some 73) [] (.call false 84 [(.t 66), (.t 72)])) (.c (.q 74 [] (.not (.t 73))) (.c (.q 75 [] (.mv (.t 74))) (.c (.q 76 [(75, false)] (.mv (.t 5))) (.c (.q 77 [(75, false)] (.mv (.t 13))) (.c (.q 78 [(75, false)] (.ia 1 (.t 76) (.t 77))) (.c (.q 79 [(75, false)] (.ld (.t 78))) (.c (.q 80 [(75, false)] (.mv (.t 3))) (.c (.q 82 [(75, false)] (.mv (.t 13))) (.c (.q 83 [(75, false)] (.mv (.t 4))) (.c (.q 84 [(75, false)] (.len (.t 83))) (.c (.q 85 [(75, false)] (.bin .eql (.t 82) (.t 84))) (.c (.e (some 81) [(75, false)] (.call false 86 [(.t 79), (.t 80)])) (.c (.q 86 [(75, false)] (.beq true (.t 81) (.t 85))) (.c (.q 87 [] (.pick (.t 75) (.c (.bool true)) (.t 86))) .nil)))))))))))))))))))))))))) t37_3)) t37_4)
def t37_5 := b37_5
theorem u37_5 : vcK P t37_5 k e w = vcK P b37_5 k e w := rfl
abbrev b37_6 : X := (.seq (.seq (.reg [3, 4, 5, 6, 7, 13, 60] (.c (.q 57 [] (.mv (.t 13))) (.c (.q 58 [] (.mv (.t 5))) (.c (.q 59 [] (.lens (.t 58))) (.c (.q 60 [] (.bin .lss (.t 57) (.t 59))) .nil))))) t37_2) t37_5)
def t37_6 := b37_6
theorem u37_6 : vcK P t37_6 k e w = vcK P b37_6 k e w := rfl
abbrev b37_7 : X := (.blk 0 (.loop [13] [3, 4, 5, 6, 7] t37_6))
def t37_7 := b37_7
theorem u37_7 : vcK P t37_7 k e w = vcK P b37_7 k e w := rfl
abbrev b37_8 : X := (.seq (.reg [12] (.c (.q 12 [] (.mv (.c (.bool true)))) .nil)) .ret)
def t37_8 := b37_8
theorem u37_8 : vcK P t37_8 k e w = vcK P b37_8 k e w := rfl
abbrev b37_9 : X := (.seq (.seq (.reg [3, 4, 5, 6, 7, 13] (.c (.q 13 [] (.mv (.c (.int .i64 1)))) .nil)) t37_7) t37_8)
def t37_9 := b37_9
theorem u37_9 : vcK P t37_9 k e w = vcK P b37_9 k e w := rfl
abbrev b37_10 : X := (.seq (.seq (.reg [3, 4, 5, 6, 7, 56] (.c (.q 14 [] (.lda 3 (.t 6))) (.c (.q 15 [] (.lda 2 (.t 7))) (.c (.q 16 [] (.mv (.t 2))) (.c (.q 17 [] (.mv (.t 3))) (.c (.e (some 18) [] (.call false 69 [(.t 14), (.t 15), (.t 16), (.t 17)])) (.c (.q 19 [] (.not (.t 18))) (.c (.q 20 [] (.mv (.t 19))) (.c (.q 21 [(20, false)] (.mv (.t 4))) (.c (.e (some 22) [(20, false)] (.call false 81 [(.t 21)])) (.c (.q 23 [(20, false)] (.not (.t 22))) (.c (.q 24 [] (.pick (.t 20) (.c (.bool true)) (.t 23))) (.c (.q 25 [] (.mv (.t 24))) (.c (.q 26 [(25, false)] (.mv (.t 4))) (.c (.q 27 [(25, false)] (.len (.t 26))) (.c (.q 28 [(25, false)] (.bin .gtr (.t 27) (.c (.int .i64 8)))) (.c (.q 29 [] (.pick (.t 25) (.c (.bool true)) (.t 28))) (.c (.q 30 [] (.mv (.t 29))) (.c (.q 31 [(30, false)] (.mv (.t 5))) (.c (.q 32 [(30, false)] (.lens (.t 31))) (.c (.q 33 [(30, false)] (.mv (.t 4))) (.c (.q 34 [(30, false)] (.len (.t 33))) (.c (.q 35 [(30, false)] (.bin .add (.t 34) (.c (.int .i64 1)))) (.c (.q 36 [(30, false)] (.bin .neq (.t 32) (.t 35))) (.c (.q 37 [] (.pick (.t 30) (.c (.bool true)) (.t 36))) (.c (.q 38 [] (.mv (.t 37))) (.c (.q 39 [(38, false)] (.mv (.t 2))) (.c (.q 40 [(38, false)] (.lda 3 (.t 6))) (.c (.q 41 [(38, false)] (.lda 2 (.t 7))) (.c (.q 42 [(38, false)] (.mv (.t 4))) (.c (.e (some 43) [(38, false)] (.call false 83 [(.t 40), (.t 41), (.t 42)])) (.c (.e (some 44) [(38, false)] (.call false 82 [(.t 39), (.t 43)])) (.c (.q 45 [(38, false)] (.mv (.t 3))) (.c (.q 46 [(38, false)] (.bin .neq (.t 44) (.t 45))) (.c (.q 47 [] (.pick (.t 38) (.c (.bool true)) (.t 46))) (.c (.q 48 [] (.mv (.t 47))) (.c (.q 49 [(48, false)] (.mv (.t 5))) (.c (.q 50 [(48, false)] (.ia 1 (.t 49) (.c (.int .i64 0)))) (.c (.q 51 [(48, false)] (.ld (.t 50))) (.c (.q 52 [(48, false)] (.mv (.t 2))) (.c (.e (some 53) [(48, false)] (.bsl 9 1 [(.t 52)])) (.c (.e (some 54) [(48, false)] (.call false 84 [(.t 51), (.t 53)])) (.c (.q 55 [(48, false)] (.not (.t 54))) (.c (.q 56 [] (.pick (.t 48) (.c (.bool true)) (.t 55))) .nil)))))))))))))))))))))))))))))))))))))))))))) t37_1) t37_9)
def t37_10 := b37_10
theorem u37_10 : vcK P t37_10 k e w = vcK P b37_10 k e w := rfl
abbrev b37_0 : X := (.seq (.reg [2, 3, 4, 5, 6, 7] (.c (.e (some 6) [] (.box 31 (.t 0))) (.c (.e (some 7) [] (.box 33 (.t 1))) (.c (.q 12 [] (.mv (.c (.bool false)))) .nil)))) t37_10)
def x_sCheckRepair := b37_0
theorem u37_0 : vcK P x_sCheckRepair k e w = vcK P b37_0 k e w := rfl
def r_sCheckRepair : List XO := [(.mv (.t 12))]
theorem c_sCheckRepair : convF Try.prog [89, 116, 117, 121, 143, 161, 162, 163, 166, 168, 234] Try.f37 [([2, 3, 4, 5, 6, 7], []), ([3, 4, 5, 6, 7, 56], []), ([12], []), ([3, 4, 5, 6, 7, 13], []), ([13], [3, 4, 5, 6, 7]), ([3, 4, 5, 6, 7, 13, 60], []), ([3, 4, 5, 6, 7, 13, 87], []), ([12], []), ([3, 4, 5, 6, 7, 13], []), ([12], [])] = some (x_sCheckRepair, r_sCheckRepair) := by kernel_rfl
def us_sCheckRepair := aI @u37_0 (aI @u37_1 (aI @u37_2 (aI @u37_3 (aI @u37_4 (aI @u37_5 (aI @u37_6 (aI @u37_7 (aI @u37_8 (aI @u37_9 @u37_10)))))))))
abbrev b36_1 : X := (.cond (.t 11) (.seq (.reg [4] (.c (.q 4 [] (.mv (.c (.int .i64 (-1))))) .nil)) .ret) .skip)
def t36_1 := b36_1
theorem u36_1 : vcK P t36_1 k e w = vcK P b36_1 k e w := rfl
abbrev b36_2 : X := (.cond (.t 15) .skip (.exit 0))
def t36_2 := b36_2
theorem u36_2 : vcK P t36_2 k e w = vcK P b36_2 k e w := rfl
abbrev b36_3 : X := (.cond (.t 25) (.seq (.reg [4] (.c (.q 4 [] (.mv (.c (.int .i64 (-1))))) .nil)) .ret) .skip)
def t36_3 := b36_3
theorem u36_3 : vcK P t36_3 k e w = vcK P b36_3 k e w := rfl
abbrev b36_4 : X := (.seq (.reg [0, 1, 5, 25] (.c (.q 24 [] (.mv (.t 1))) (.c (.q 25 [] (.bin .lss (.t 24) (.c (.int .i64 0)))) .nil))) t36_3)
def t36_4 := b36_4
theorem u36_4 : vcK P t36_4 k e w = vcK P b36_4 k e w := rfl
abbrev b36_5 : X := (.reg [0, 1, 5] (.c (.q 16 [] (.mv (.t 5))) (.c (.q 17 [] (.bin .add (.t 16) (.c (.int .i64 1)))) (.c (.q 5 [] (.mv (.t 17))) .nil))))
def t36_5 := b36_5
theorem u36_5 : vcK P t36_5 k e w = vcK P b36_5 k e w := rfl
abbrev b36_6 : X := (.seq (.blk 1 (.seq (.reg [0, 1, 5] (.c (.q 18 [] (.mv (.t 0))) (.c (.q 19 [] (.mv (.t 5))) (.c (.q 20 [] (.ia 1 (.t 18) (.t 19))) (.c (.q 21 [] (.ld (.t 20))) (.c (.q 22 [] (.mv (.t 1))) (.c (.e (some 23) [] (.call false 32 [(.t 21), (.t 22)])) (.c (.q 1 [] (.mv (.t 23))) .nil)))))))) t36_4)) t36_5)
def t36_6 := b36_6
theorem u36_6 : vcK P t36_6 k e w = vcK P b36_6 k e w := rfl
abbrev b36_7 : X := (.seq (.seq (.reg [0, 1, 5, 15] (.c (.q 12 [] (.mv (.t 5))) (.c (.q 13 [] (.mv (.t 0))) (.c (.q 14 [] (.lens (.t 13))) (.c (.q 15 [] (.bin .lss (.t 12) (.t 14))) .nil))))) t36_2) t36_6)
def t36_7 := b36_7
theorem u36_7 : vcK P t36_7 k e w = vcK P b36_7 k e w := rfl
abbrev b36_8 : X := (.blk 0 (.loop [1, 5] [0] t36_7))
def t36_8 := b36_8
theorem u36_8 : vcK P t36_8 k e w = vcK P b36_8 k e w := rfl
abbrev b36_9 : X := (.seq (.reg [4] (.c (.q 26 [] (.mv (.t 1))) (.c (.q 4 [] (.mv (.t 26))) .nil))) .ret)
def t36_9 := b36_9
theorem u36_9 : vcK P t36_9 k e w = vcK P b36_9 k e w := rfl
abbrev b36_10 : X := (.seq (.seq (.reg [0, 1, 5] (.c (.q 5 [] (.mv (.c (.int .i64 0)))) .nil)) t36_8) t36_9)
def t36_10 := b36_10
theorem u36_10 : vcK P t36_10 k e w = vcK P b36_10 k e w := rfl
abbrev b36_11 : X := (.seq (.seq (.reg [0, 1, 11] (.c (.q 10 [] (.mv (.t 1))) (.c (.q 11 [] (.bin .lss (.t 10) (.c (.int .i64 0)))) .nil))) t36_1) t36_10)
def t36_11 := b36_11
theorem u36_11 : vcK P t36_11 k e w = vcK P b36_11 k e w := rfl
abbrev b36_12 : X := (.seq (.reg [0, 1] (.c (.q 6 [] (.mv (.t 1))) (.c (.q 7 [] (.mv (.t 0))) (.c (.q 8 [] (.lens (.t 7))) (.c (.q 9 [] (.bin .sub (.t 6) (.t 8))) (.c (.q 1 [] (.mv (.t 9))) .nil)))))) t36_11)
def t36_12 := b36_12
theorem u36_12 : vcK P t36_12 k e w = vcK P b36_12 k e w := rfl
abbrev b36_0 : X := (.seq (.reg [0, 1] (.c (.q 4 [] (.mv (.c (.int .i64 0)))) .nil)) t36_12)
def x_lszStringSS := b36_0
theorem u36_0 : vcK P x_lszStringSS k e w = vcK P b36_0 k e w := rfl
def r_lszStringSS : List XO := [(.mv (.t 4))]
theorem c_lszStringSS : convF Try.prog [89, 116, 117, 121, 143, 161, 162, 163, 166, 168, 234] Try.f36 [([0, 1], []), ([0, 1], []), ([0, 1, 11], []), ([4], []), ([0, 1, 5], []), ([1, 5], [0]), ([0, 1, 5, 15], []), ([0, 1, 5], []), ([0, 1, 5, 25], []), ([4], []), ([0, 1, 5], []), ([4], [])] = some (x_lszStringSS, r_lszStringSS) := by kernel_rfl
def us_lszStringSS := aI @u36_0 (aI @u36_1 (aI @u36_2 (aI @u36_3 (aI @u36_4 (aI @u36_5 (aI @u36_6 (aI @u36_7 (aI @u36_8 (aI @u36_9 (aI @u36_10 (aI @u36_11 @u36_12)))))))))))
abbrev b38_1 : X := (.cond (.t 11) .skip (.exit 0))
def t38_1 := b38_1
theorem u38_1 : vcK P t38_1 k e w = vcK P b38_1 k e w := rfl
abbrev b38_2 : X := (.reg [0, 3, 4] (.c (.q 12 [] (.mv (.t 4))) (.c (.q 13 [] (.bin .add (.t 12) (.c (.int .i64 1)))) (.c (.q 4 [] (.mv (.t 13))) .nil))))
def t38_2 := b38_2
theorem u38_2 : vcK P t38_2 k e w = vcK P b38_2 k e w := rfl
abbrev b38_3 : X := (.seq (.blk 1 (.reg [0, 3, 4] (.c (.q 14 [] (.mv (.t 3))) (.c (.q 15 [] (.mv (.t 4))) (.c (.q 16 [] (.mv (.t 0))) (.c (.q 17 [] (.mv (.t 4))) (.c (.q 18 [] (.ia 1 (.t 16) (.t 17))) (.c (.q 19 [] (.ld (.t 18))) (.c (.e (some 20) [] (.call false 34 [(.t 19)])) (.c (.q 21 [] (.ia 1 (.t 14) (.t 15))) (.c (.e none [] (.st 1 (.t 21) (.t 20))) .nil))))))))))) t38_2)
def t38_3 := b38_3
theorem u38_3 : vcK P t38_3 k e w = vcK P b38_3 k e w := rfl
abbrev b38_4 : X := (.seq (.seq (.reg [0, 3, 4, 11] (.c (.q 8 [] (.mv (.t 4))) (.c (.q 9 [] (.mv (.t 0))) (.c (.q 10 [] (.lens (.t 9))) (.c (.q 11 [] (.bin .lss (.t 8) (.t 10))) .nil))))) t38_1) t38_3)
def t38_4 := b38_4
theorem u38_4 : vcK P t38_4 k e w = vcK P b38_4 k e w := rfl
abbrev b38_5 : X := (.blk 0 (.loop [4] [0, 3] t38_4))
def t38_5 := b38_5
theorem u38_5 : vcK P t38_5 k e w = vcK P b38_5 k e w := rfl
abbrev b38_6 : X := (.seq (.reg [2] (.c (.q 22 [] (.mv (.t 3))) (.c (.q 2 [] (.mv (.t 22))) .nil))) .ret)
def t38_6 := b38_6
theorem u38_6 : vcK P t38_6 k e w = vcK P b38_6 k e w := rfl
abbrev b38_7 : X := (.seq (.seq (.reg [0, 3, 4] (.c (.q 4 [] (.mv (.c (.int .i64 0)))) .nil)) t38_5) t38_6)
def t38_7 := b38_7
theorem u38_7 : vcK P t38_7 k e w = vcK P b38_7 k e w := rfl
abbrev b38_8 : X := (.seq (.reg [0, 3] (.c (.q 5 [] (.mv (.t 0))) (.c (.q 6 [] (.lens (.t 5))) (.c (.e (some 7) [] (.msl 44 22 1 24 [(.slice none 0 0)] (.t 6) (.t 6))) (.c (.q 3 [] (.mv (.t 7))) .nil))))) t38_7)
def t38_8 := b38_8
theorem u38_8 : vcK P t38_8 k e w = vcK P b38_8 k e w := rfl
abbrev b38_0 : X := (.seq (.reg [0] (.c (.q 2 [] (.mv (.c (.slice none 0 0)))) .nil)) t38_8)
def x_ltoStringSS := b38_0
theorem u38_0 : vcK P x_ltoStringSS k e w = vcK P b38_0 k e w := rfl
def r_ltoStringSS : List XO := [(.mv (.t 2))]
theorem c_ltoStringSS : convF Try.prog [89, 116, 117, 121, 143, 161, 162, 163, 166, 168, 234] Try.f38 [([0], []), ([0, 3], []), ([0, 3, 4], []), ([4], [0, 3]), ([0, 3, 4, 11], []), ([0, 3, 4], []), ([0, 3, 4], []), ([2], [])] = some (x_ltoStringSS, r_ltoStringSS) := by kernel_rfl
def us_ltoStringSS := aI @u38_0 (aI @u38_1 (aI @u38_2 (aI @u38_3 (aI @u38_4 (aI @u38_5 (aI @u38_6 (aI @u38_7 @u38_8)))))))
abbrev b84_1 : X := (.cond (.t 10) (.seq (.reg [4] (.c (.q 4 [] (.mv (.c (.bool false)))) .nil)) .ret) .skip)
def t84_1 := b84_1
theorem u84_1 : vcK P t84_1 k e w = vcK P b84_1 k e w := rfl
abbrev b84_2 : X := (.cond (.t 24) (.seq (.reg [4] (.c (.q 4 [] (.mv (.c (.bool false)))) .nil)) .ret) .skip)
def t84_2 := b84_2
theorem u84_2 : vcK P t84_2 k e w = vcK P b84_2 k e w := rfl
abbrev b84_3 : X := (.seq (.drw [0, 1, 12, 13, 24] (.c (.q 16 [] (.mv (.t 0))) (.c (.q 17 [] (.mv (.t 5))) (.c (.q 18 [] (.ia 1 (.t 16) (.t 17))) (.c (.q 19 [] (.ld (.t 18))) (.c (.q 20 [] (.mv (.t 1))) (.c (.q 21 [] (.mv (.t 5))) (.c (.q 22 [] (.ia 1 (.t 20) (.t 21))) (.c (.q 23 [] (.ld (.t 22))) (.c (.q 24 [] (.bin .neq (.t 19) (.t 23))) .nil)))))))))) t84_2)
def t84_3 := b84_3
theorem u84_3 : vcK P t84_3 k e w = vcK P b84_3 k e w := rfl
abbrev b84_4 : X := (.reg [0, 1, 12, 13] (.c (.q 25 [] (.bin .add (.t 13) (.c (.int .i64 1)))) (.c (.q 13 [] (.mv (.t 25))) .nil)))
def t84_4 := b84_4
theorem u84_4 : vcK P t84_4 k e w = vcK P b84_4 k e w := rfl
abbrev b84_5 : X := (.seq (.blk 1 (.seq (.reg [0, 1, 5, 12, 13] (.c (.q 15 [] (.mv (.t 13))) (.c (.q 5 [] (.mv (.t 15))) .nil))) t84_3)) t84_4)
def t84_5 := b84_5
theorem u84_5 : vcK P t84_5 k e w = vcK P b84_5 k e w := rfl
abbrev b84_6 : X := (.seq (.cond (.t 14) .skip (.exit 0)) t84_5)
def t84_6 := b84_6
theorem u84_6 : vcK P t84_6 k e w = vcK P b84_6 k e w := rfl
abbrev b84_7 : X := (.seq (.reg [0, 1, 12, 13, 14] (.c (.q 14 [] (.bin .lss (.t 13) (.t 12))) .nil)) t84_6)
def t84_7 := b84_7
theorem u84_7 : vcK P t84_7 k e w = vcK P b84_7 k e w := rfl
abbrev b84_8 : X := (.blk 0 (.loop [13] [0, 1, 12] t84_7))
def t84_8 := b84_8
theorem u84_8 : vcK P t84_8 k e w = vcK P b84_8 k e w := rfl
abbrev b84_9 : X := (.seq (.reg [4] (.c (.q 4 [] (.mv (.c (.bool true)))) .nil)) .ret)
def t84_9 := b84_9
theorem u84_9 : vcK P t84_9 k e w = vcK P b84_9 k e w := rfl
abbrev b84_10 : X := (.seq (.seq (.reg [0, 1, 12, 13] (.c (.q 11 [] (.mv (.t 0))) (.c (.q 12 [] (.lens (.t 11))) (.c (.q 13 [] (.mv (.c (.int .i64 0)))) .nil)))) t84_8) t84_9)
def t84_10 := b84_10
theorem u84_10 : vcK P t84_10 k e w = vcK P b84_10 k e w := rfl
abbrev b84_11 : X := (.seq (.seq (.reg [0, 1, 10] (.c (.q 6 [] (.mv (.t 0))) (.c (.q 7 [] (.lens (.t 6))) (.c (.q 8 [] (.mv (.t 1))) (.c (.q 9 [] (.lens (.t 8))) (.c (.q 10 [] (.bin .neq (.t 7) (.t 9))) .nil)))))) t84_1) t84_10)
def t84_11 := b84_11
theorem u84_11 : vcK P t84_11 k e w = vcK P b84_11 k e w := rfl
abbrev b84_0 : X := (.seq (.reg [0, 1] (.c (.q 4 [] (.mv (.c (.bool false)))) .nil)) t84_11)
def x_sl1SameS := b84_0
theorem u84_0 : vcK P x_sl1SameS k e w = vcK P b84_0 k e w := rfl
def r_sl1SameS : List XO := [(.mv (.t 4))]
theorem c_sl1SameS : convF Try.prog [89, 116, 117, 121, 143, 161, 162, 163, 166, 168, 234] Try.f84 [([0, 1], []), ([0, 1, 10], []), ([4], []), ([0, 1, 12, 13], []), ([13], [0, 1, 12]), ([0, 1, 12, 13, 14], []), ([0, 1, 5, 12, 13], []), ([0, 1, 12, 13, 24], []), ([4], []), ([0, 1, 12, 13], []), ([4], [])] = some (x_sl1SameS, r_sl1SameS) := by kernel_rfl
def us_sl1SameS := aI @u84_0 (aI @u84_1 (aI @u84_2 (aI @u84_3 (aI @u84_4 (aI @u84_5 (aI @u84_6 (aI @u84_7 (aI @u84_8 (aI @u84_9 (aI @u84_10 @u84_11))))))))))
abbrev b8_1 : X := (.cond (.t 20) (.seq (.reg [12] (.c (.q 12 [] (.mv (.c (.bool true)))) .nil)) .ret) .skip)
def t8_1 := b8_1
theorem u8_1 : vcK P t8_1 k e w = vcK P b8_1 k e w := rfl
abbrev b8_2 : X := (.cond (.t 23) (.seq (.reg [12] (.c (.q 12 [] (.mv (.c (.bool true)))) .nil)) .ret) .skip)
def t8_2 := b8_2
theorem u8_2 : vcK P t8_2 k e w = vcK P b8_2 k e w := rfl
abbrev b8_3 : X := (.cond (.t 26) (.seq (.reg [12] (.c (.q 12 [] (.mv (.c (.bool true)))) .nil)) .ret) .skip)
def t8_3 := b8_3
theorem u8_3 : vcK P t8_3 k e w = vcK P b8_3 k e w := rfl
abbrev b8_4 : X := (.cond (.t 31) (.seq (.reg [12] (.c (.q 12 [] (.mv (.c (.bool true)))) .nil)) .ret) .skip)
def t8_4 := b8_4
theorem u8_4 : vcK P t8_4 k e w = vcK P b8_4 k e w := rfl
abbrev b8_5 : X := (.cond (.t 36) (.seq (.reg [12] (.c (.q 12 [] (.mv (.c (.bool true)))) .nil)) .ret) .skip)
def t8_5 := b8_5
theorem u8_5 : vcK P t8_5 k e w = vcK P b8_5 k e w := rfl
abbrev b8_6 : X := (.cond (.t 41) (.seq (.reg [12] (.c (.q 12 [] (.mv (.c (.bool true)))) .nil)) .ret) .skip)
def t8_6 := b8_6
theorem u8_6 : vcK P t8_6 k e w = vcK P b8_6 k e w := rfl
abbrev b8_7 : X := (.cond (.t 66) (.seq (.reg [12] (.c (.q 12 [] (.mv (.c (.bool false)))) .nil)) .ret) .skip)
def t8_7 := b8_7
theorem u8_7 : vcK P t8_7 k e w = vcK P b8_7 k e w := rfl
abbrev b8_8 : X := (.cond (.t 71) (.seq (.reg [12] (.c (.q 12 [] (.mv (.c (.bool false)))) .nil)) .ret) .skip)
def t8_8 := b8_8
theorem u8_8 : vcK P t8_8 k e w = vcK P b8_8 k e w := rfl
abbrev b8_9 : X := (.cond (.t 76) (.seq (.reg [12] (.c (.q 12 [] (.mv (.c (.bool false)))) .nil)) .ret) .skip)
def t8_9 := b8_9
theorem u8_9 : vcK P t8_9 k e w = vcK P b8_9 k e w := rfl
abbrev b8_10 : X := (.seq (.reg [12] (.c (.q 12 [] (.mv (.c (.bool true)))) .nil)) .ret)
def t8_10 := b8_10
theorem u8_10 : vcK P t8_10 k e w = vcK P b8_10 k e w := rfl
abbrev b8_11 : X := (.seq (.seq (.reg [76] (.c (.q 72 [] (.mv (.t 16))) (.c (.q 73 [] (.mv (.t 5))) (.c (.e (some 74) [] (.call false 38 [(.t 73)])) (.c (.e (some 75) [] (.call false 29 [(.t 72), (.t 74)])) (.c (.q 76 [] (.not (.t 75))) .nil)))))) t8_9) t8_10)
def t8_11 := b8_11
theorem u8_11 : vcK P t8_11 k e w = vcK P b8_11 k e w := rfl
abbrev b8_12 : X := (.seq (.seq (.drw [5, 16, 71] (.c (.q 67 [] (.lda 3 (.t 15))) (.c (.q 68 [] (.lda 3 (.t 6))) (.c (.e (some 69) [] (.call false 15 [(.t 68)])) (.c (.e (some 70) [] (.call false 18 [(.t 67), (.t 69)])) (.c (.q 71 [] (.not (.t 70))) .nil)))))) t8_8) t8_11)
def t8_12 := b8_12
theorem u8_12 : vcK P t8_12 k e w = vcK P b8_12 k e w := rfl
abbrev b8_13 : X := (.seq (.seq (.reg [5, 6, 15, 16, 66] (.c (.q 64 [] (.mv (.t 17))) (.c (.q 65 [] (.mv (.t 14))) (.c (.q 66 [] (.beq true (.t 64) (.t 65))) .nil)))) t8_7) t8_12)
def t8_13 := b8_13
theorem u8_13 : vcK P t8_13 k e w = vcK P b8_13 k e w := rfl
abbrev b8_14 : X := (.seq (.drw [5, 6, 14, 15, 16, 17] (.c (.q 56 [] (.lda 3 (.t 15))) (.c (.q 57 [] (.lda 2 (.t 7))) (.c (.q 59 [] (.mv (.t 2))) (.c (.q 60 [] (.mv (.t 3))) (.c (.q 61 [] (.mv (.t 4))) (.c (.q 62 [] (.mv (.t 16))) (.c (.e (some 58) [] (.call false 16 [(.t 57)])) (.c (.e (some 63) [] (.call false 39 [(.t 56), (.t 58), (.t 59), (.t 60), (.t 61), (.t 62)])) (.c (.q 17 [] (.mv (.t 63))) .nil)))))))))) t8_13)
def t8_14 := b8_14
theorem u8_14 : vcK P t8_14 k e w = vcK P b8_14 k e w := rfl
abbrev b8_15 : X := (.seq (.reg [2, 3, 4, 5, 6, 7, 14, 15, 16] (.c (.q 54 [] (.mv (.t 5))) (.c (.e (some 55) [] (.call false 38 [(.t 54)])) (.c (.q 16 [] (.mv (.t 55))) .nil)))) t8_14)
def t8_15 := b8_15
theorem u8_15 : vcK P t8_15 k e w = vcK P b8_15 k e w := rfl
abbrev b8_16 : X := (.seq (.reg [2, 3, 4, 5, 6, 7, 14, 15] (.c (.q 52 [] (.lda 3 (.t 6))) (.c (.e (some 53) [] (.call false 15 [(.t 52)])) (.c (.e (some 15) [] (.al 31 [(S []), (.int .i64 0), (.slice none 0 0)])) (.c (.e none [] (.st 3 (.t 15) (.t 53))) .nil))))) t8_15)
def t8_16 := b8_16
theorem u8_16 : vcK P t8_16 k e w = vcK P b8_16 k e w := rfl
abbrev b8_17 : X := (.seq (.drw [2, 3, 4, 5, 6, 7, 14] (.c (.q 42 [] (.lda 3 (.t 6))) (.c (.q 44 [] (.lda 2 (.t 7))) (.c (.q 46 [] (.mv (.t 2))) (.c (.q 47 [] (.mv (.t 3))) (.c (.q 48 [] (.mv (.t 4))) (.c (.q 49 [] (.mv (.t 5))) (.c (.e (some 43) [] (.call false 15 [(.t 42)])) (.c (.e (some 45) [] (.call false 16 [(.t 44)])) (.c (.e (some 50) [] (.call false 38 [(.t 49)])) (.c (.e (some 51) [] (.call false 37 [(.t 43), (.t 45), (.t 46), (.t 47), (.t 48), (.t 50)])) (.c (.q 14 [] (.mv (.t 51))) .nil)))))))))))) t8_16)
def t8_17 := b8_17
theorem u8_17 : vcK P t8_17 k e w = vcK P b8_17 k e w := rfl
abbrev b8_18 : X := (.seq (.seq (.reg [2, 3, 4, 5, 6, 7, 41] (.c (.q 40 [] (.mv (.t 13))) (.c (.q 41 [] (.bin .lss (.t 40) (.c (.int .i64 0)))) .nil))) t8_6) t8_17)
def t8_18 := b8_18
theorem u8_18 : vcK P t8_18 k e w = vcK P b8_18 k e w := rfl
abbrev b8_19 : X := (.seq (.reg [2, 3, 4, 5, 6, 7, 13] (.c (.q 37 [] (.mv (.t 5))) (.c (.q 38 [] (.mv (.t 13))) (.c (.e (some 39) [] (.call false 36 [(.t 37), (.t 38)])) (.c (.q 13 [] (.mv (.t 39))) .nil))))) t8_18)
def t8_19 := b8_19
theorem u8_19 : vcK P t8_19 k e w = vcK P b8_19 k e w := rfl
abbrev b8_20 : X := (.seq (.seq (.reg [2, 3, 4, 5, 6, 7, 13, 36] (.c (.q 35 [] (.mv (.t 13))) (.c (.q 36 [] (.bin .lss (.t 35) (.c (.int .i64 0)))) .nil))) t8_5) t8_19)
def t8_20 := b8_20
theorem u8_20 : vcK P t8_20 k e w = vcK P b8_20 k e w := rfl
abbrev b8_21 : X := (.seq (.reg [2, 3, 4, 5, 6, 7, 13] (.c (.q 32 [] (.lda 2 (.t 7))) (.c (.q 33 [] (.mv (.t 13))) (.c (.e (some 34) [] (.call false 13 [(.t 32), (.t 33)])) (.c (.q 13 [] (.mv (.t 34))) .nil))))) t8_20)
def t8_21 := b8_21
theorem u8_21 : vcK P t8_21 k e w = vcK P b8_21 k e w := rfl
abbrev b8_22 : X := (.seq (.seq (.reg [2, 3, 4, 5, 6, 7, 13, 31] (.c (.q 30 [] (.mv (.t 13))) (.c (.q 31 [] (.bin .lss (.t 30) (.c (.int .i64 0)))) .nil))) t8_4) t8_21)
def t8_22 := b8_22
theorem u8_22 : vcK P t8_22 k e w = vcK P b8_22 k e w := rfl
abbrev b8_23 : X := (.seq (.reg [2, 3, 4, 5, 6, 7, 13] (.c (.q 27 [] (.lda 3 (.t 6))) (.c (.q 28 [] (.mv (.t 13))) (.c (.e (some 29) [] (.call false 12 [(.t 27), (.t 28)])) (.c (.q 13 [] (.mv (.t 29))) .nil))))) t8_22)
def t8_23 := b8_23
theorem u8_23 : vcK P t8_23 k e w = vcK P b8_23 k e w := rfl
abbrev b8_24 : X := (.seq (.reg [2, 3, 4, 5, 6, 7, 13] (.c (.q 13 [] (.mv (.c (.int .i64 1048576)))) .nil)) t8_23)
def t8_24 := b8_24
theorem u8_24 : vcK P t8_24 k e w = vcK P b8_24 k e w := rfl
abbrev b8_25 : X := (.seq (.seq (.reg [2, 3, 4, 5, 6, 7, 26] (.c (.q 24 [] (.mv (.t 4))) (.c (.q 25 [] (.len (.t 24))) (.c (.q 26 [] (.bin .gtr (.t 25) (.c (.int .i64 1048576)))) .nil)))) t8_3) t8_24)
def t8_25 := b8_25
theorem u8_25 : vcK P t8_25 k e w = vcK P b8_25 k e w := rfl
abbrev b8_26 : X := (.seq (.seq (.reg [2, 3, 4, 5, 6, 7, 23] (.c (.q 21 [] (.mv (.t 3))) (.c (.q 22 [] (.len (.t 21))) (.c (.q 23 [] (.bin .gtr (.t 22) (.c (.int .i64 1048576)))) .nil)))) t8_2) t8_25)
def t8_26 := b8_26
theorem u8_26 : vcK P t8_26 k e w = vcK P b8_26 k e w := rfl
abbrev b8_27 : X := (.seq (.seq (.reg [2, 3, 4, 5, 6, 7, 20] (.c (.q 18 [] (.mv (.t 2))) (.c (.q 19 [] (.len (.t 18))) (.c (.q 20 [] (.bin .gtr (.t 19) (.c (.int .i64 1048576)))) .nil)))) t8_1) t8_26)
def t8_27 := b8_27
theorem u8_27 : vcK P t8_27 k e w = vcK P b8_27 k e w := rfl
abbrev b8_0 : X := (.seq (.reg [2, 3, 4, 5, 6, 7] (.c (.e (some 6) [] (.box 24 (.t 0))) (.c (.e (some 7) [] (.box 26 (.t 1))) (.c (.q 12 [] (.mv (.c (.bool false)))) .nil)))) t8_27)
def x_lFnExactCheckRepair := b8_0
theorem u8_0 : vcK P x_lFnExactCheckRepair k e w = vcK P b8_0 k e w := rfl
def r_lFnExactCheckRepair : List XO := [(.mv (.t 12))]
theorem c_lFnExactCheckRepair : convF Try.prog [89, 116, 117, 121, 143, 161, 162, 163, 166, 168, 234] Try.f8 [([2, 3, 4, 5, 6, 7], []), ([2, 3, 4, 5, 6, 7, 20], []), ([12], []), ([2, 3, 4, 5, 6, 7, 23], []), ([12], []), ([2, 3, 4, 5, 6, 7, 26], []), ([12], []), ([2, 3, 4, 5, 6, 7, 13], []), ([2, 3, 4, 5, 6, 7, 13], []), ([2, 3, 4, 5, 6, 7, 13, 31], []), ([12], []), ([2, 3, 4, 5, 6, 7, 13], []), ([2, 3, 4, 5, 6, 7, 13, 36], []), ([12], []), ([2, 3, 4, 5, 6, 7, 13], []), ([2, 3, 4, 5, 6, 7, 41], []), ([12], []), ([2, 3, 4, 5, 6, 7, 14], []), ([2, 3, 4, 5, 6, 7, 14, 15], []), ([2, 3, 4, 5, 6, 7, 14, 15, 16], []), ([5, 6, 14, 15, 16, 17], []), ([5, 6, 15, 16, 66], []), ([12], []), ([5, 16, 71], []), ([12], []), ([76], []), ([12], []), ([12], [])] = some (x_lFnExactCheckRepair, r_lFnExactCheckRepair) := by kernel_rfl
def us_lFnExactCheckRepair := aI @u8_0 (aI @u8_1 (aI @u8_2 (aI @u8_3 (aI @u8_4 (aI @u8_5 (aI @u8_6 (aI @u8_7 (aI @u8_8 (aI @u8_9 (aI @u8_10 (aI @u8_11 (aI @u8_12 (aI @u8_13 (aI @u8_14 (aI @u8_15 (aI @u8_16 (aI @u8_17 (aI @u8_18 (aI @u8_19 (aI @u8_20 (aI @u8_21 (aI @u8_22 (aI @u8_23 (aI @u8_24 (aI @u8_25 (aI @u8_26 @u8_27))))))))))))))))))))))))))
end

theorem sl1SameS_ok (v1 v2 : Value) (l1 l2 : List (List UInt8)) (w : World) (h1 : Sq fS 1 w v1 l1) (h2 : Sq fS 1 w v2 l2) (hl : l1.length ≤ 1000000000) : Fn 84 [v1, v2] w (fun v _ => v = .bool (decide (l1 = l2))) := by
  (refine callsV_of mix Try.func84 c_sl1SameS ?_; simp only [↓vsd, vsn, gW, qd, qv, ev, pick, argE, zipE, ne_eq, eq_self, forall_const, implies_true, if_true, if_false, reduceIte, reduceCtorEq, Nat.reduceEqDiff, Nat.reduceAdd, Nat.reduceLT, ↓us_sl1SameS, r_sl1SameS])
  simp only [↓vsd, vsn, gW, qd, qv, ev, pick, argE, zipE, ne_eq, eq_self, forall_const, implies_true, if_true, if_false, reduceIte, reduceCtorEq, Nat.reduceEqDiff, Nat.reduceAdd, Nat.reduceLT, ↓us_sl1SameS, r_sl1SameS, h1.facts, h2.facts]
  refine ⟨fun hne => ⟨Ext.refl _, ?_⟩, fun he => ?_⟩
  · have : ¬ l1 = l2 := fun e => hne (by rw [e])
    simp [this]
  refine m_upto l1.length (fun k vs w' => vs = [.int .i64 k] ∧ l1.take k = l2.take k ∧ Ext w w') ⟨rfl, rfl, Ext.refl _⟩ ?_
  rintro k vs w3 hk ⟨rfl, heq, hx⟩
  have g1 := h1.ext hx
  have g2 := h2.ext hx
  by_cases hlt : k < l1.length
  · have hlt2 : k < l2.length := by omega
    have hltI : (k : Int) < l1.length := by omega
    have hltJ : ¬ (l1.length : Int) ≤ k := by omega
    simp only [↓vsd, vsn, gW, qd, qv, ev, pick, argE, zipE, ne_eq, eq_self, forall_const, implies_true, if_true, if_false, reduceIte, reduceCtorEq, Nat.reduceEqDiff, Nat.reduceAdd, Nat.reduceLT, ↓us_sl1SameS, r_sl1SameS, g1.facts, g2.facts, g1.at1 [] hlt, g2.at1 [] hlt2, hltI, hltJ]
    exact ⟨by omega, by omega, fun hne => ⟨by first | exact hx | exact dr hx, by simp [ne_at k hne]⟩, fun he2 => ⟨inR_i64 (by omega), UpTo.next hlt ⟨rfl, eq_take heq hlt hlt2 he2, by first | exact hx | exact dr hx⟩⟩⟩
  · obtain rfl : k = l1.length := by omega
    have hltI : ¬ (l1.length : Int) < l1.length := by omega
    simp only [↓vsd, vsn, gW, qd, qv, ev, pick, argE, zipE, ne_eq, eq_self, forall_const, implies_true, if_true, if_false, reduceIte, reduceCtorEq, Nat.reduceEqDiff, Nat.reduceAdd, Nat.reduceLT, ↓us_sl1SameS, r_sl1SameS, g1.facts, hltI]
    exact ⟨hx, by simp [eq_len heq (by omega)]⟩
theorem xslices_Equal_string_string_ok (v1 v2 : Value) (l1 l2 : List Bs) (w : World) (h1 : Sq fS 1 w v1 l1) (h2 : Sq fS 1 w v2 l2) (hl : l1.length ≤ 1000000000) : Fn 90 [v1, v2] w (fun v _ => v = .bool (decide (l1 = l2))) := by
  (refine callsV_of mix Try.func90 c_xslices_Equal_string_string ?_; simp only [↓vsd, vsn, gW, qd, qv, ev, pick, argE, zipE, ne_eq, eq_self, forall_const, implies_true, if_true, if_false, reduceIte, reduceCtorEq, Nat.reduceEqDiff, Nat.reduceAdd, Nat.reduceLT, ↓us_xslices_Equal_string_string, r_xslices_Equal_string_string])
  simp only [↓vsd, vsn, gW, qd, qv, ev, pick, argE, zipE, ne_eq, eq_self, forall_const, implies_true, if_true, if_false, reduceIte, reduceCtorEq, Nat.reduceEqDiff, Nat.reduceAdd, Nat.reduceLT, ↓us_xslices_Equal_string_string, r_xslices_Equal_string_string, h1.facts, h2.facts]
  refine ⟨fun hne => ⟨Ext.refl _, by have : ¬ l1 = l2 := fun e => hne (by rw [e]); simp [this]⟩, fun he => ?_⟩
  have he : l1.length = l2.length := by omega
  refine m_upto l1.length (fun i vs w' => vs = [.int .i64 i] ∧ (∀ j < i, l1.getD j [] = l2.getD j []) ∧ Ext w w') ⟨rfl, fun j hj => by omega, Ext.refl _⟩ ?_
  rintro i vs w1 hi ⟨rfl, hall, hx1⟩
  have hq1 := h1.ext hx1
  have hq2 := h2.ext hx1
  by_cases hlt : i < l1.length
  · have hltI : (i : Int) < l1.length := by omega
    have hltJ : ¬ (l1.length : Int) ≤ i := by omega
    have a1 := hq1.at1 [] hlt
    have a2 := hq2.at1 [] (show i < l2.length by omega)
    simp only [↓vsd, vsn, gW, qd, qv, ev, pick, argE, zipE, ne_eq, eq_self, forall_const, implies_true, if_true, if_false, reduceIte, reduceCtorEq, Nat.reduceEqDiff, Nat.reduceAdd, Nat.reduceLT, ↓us_xslices_Equal_string_string, r_xslices_Equal_string_string, hltI, hltJ, hq1.facts, hq2.facts, a1, a2]
    refine ⟨by omega, by omega, fun hne => ⟨hx1, (decide_eq_false fun e => hne (by rw [e])).symm⟩, fun heq => ⟨inR_i64 (by omega), UpTo.next hlt ⟨by simp, fun j hj => ?_, by first | exact hx1 | exact dr hx1⟩⟩⟩
    by_cases hji : j = i
    · subst hji; exact heq
    · exact hall j (by omega)
  · obtain rfl : i = l1.length := by omega
    have hltI : ¬ (l1.length : Int) < l1.length := by omega
    simp only [↓vsd, vsn, gW, qd, qv, ev, pick, argE, zipE, ne_eq, eq_self, forall_const, implies_true, if_true, if_false, reduceIte, reduceCtorEq, Nat.reduceEqDiff, Nat.reduceAdd, Nat.reduceLT, ↓us_xslices_Equal_string_string, r_xslices_Equal_string_string, hltI]
    exact ⟨hx1, (decide_eq_true (ext_getD he hall)).symm⟩
/-- Is the repair T from f to t right, with the layers ls? -/
def ChkOk (nm : Bs) (st : Int) (cs : List Bs) (b s f t T : Bs) (ls : List (List Bs)) : Prop := RepOk nm st cs b s f t ∧ IsTch T ∧ T.length ≤ 8 ∧ ls.length = T.length + 1 ∧ timesL f (headP st.toNat cs b s T T.length) = t ∧ ∀ i < ls.length, ls.getD i [] = layer (hs3 (HC st.toNat cs b s)) f i ∧ (t ∈ layer (hs3 (HC st.toNat cs b s)) f i ↔ i = T.length)
instance (nm : Bs) (st : Int) (cs : List Bs) (b s f t T : Bs) (ls : List (List Bs)) : Decidable (ChkOk nm st cs b s f t T ls) := by unfold ChkOk; infer_instance
theorem layer_pow (hs : List Bs) (f : Bs) (h3 : hs.length = 3) : ∀ k, (layer hs f k).length ≤ 3 ^ k
  | 0 => by simp [layer_zero]
  | k + 1 => by
    have h1 := layer_next hs f k
    have h2 := layer_pow hs f h3 k
    rw [h3] at h1
    rw [Nat.pow_succ]; omega
theorem lays_pow (hs : List Bs) (f : Bs) (h3 : hs.length = 3) : ∀ k, (lays hs f k).flatten.length ≤ 2 * 3 ^ k
  | 0 => by simp [lays]
  | k + 1 => by
    have h1 := flat_succ hs f k
    have h2 := lays_pow hs f h3 k
    have h4 := layer_pow hs f h3 (k + 1)
    rw [Nat.pow_succ] at h4 ⊢; omega
theorem pow8 {k : Nat} (h : k ≤ 8) : 3 ^ k ≤ 6561 := Nat.pow_le_pow_right (by omega) h
set_option maxHeartbeats 2000000 in
theorem iCheckRepair_ok (nm : List UInt8) (st : Int) (v o : Value) (cs : List (List UInt8)) (b s f t T : List UInt8) (ls : List (List Bs)) (hnm : nm.length ≤ 1048576) (hs : ∀ c ∈ cs, c.length ≤ 1048576) (hl : cs.length ≤ 1000000000) (hb : b.length ≤ 1048576 ∧ s.length ≤ 1048576) (hT : T.length ≤ 1048576) (hls : ls.length ≤ 1048576 ∧ ∀ x ∈ ls, x.length ≤ 1048576) (w : World) (h : Sq fS 1 w v cs) (h' : Sq2 fS w o ls) : Fn 39 [mV nm st v, kV b s, S f, S t, S T, o] w (fun r _ => r = .bool (decide (ChkOk nm st cs b s f t T ls))) := by
  (refine callsV_of mix Try.func39 c_iCheckRepair ?_; simp only [↓vsd, vsn, gW, qd, qv, ev, pick, argE, zipE, ne_eq, eq_self, forall_const, implies_true, if_true, if_false, reduceIte, reduceCtorEq, Nat.reduceEqDiff, Nat.reduceAdd, Nat.reduceLT, ↓us_iCheckRepair, r_iCheckRepair])
  refine m_al ?_
  rintro b1 w1 hb1 hblk1 hx1 hs1
  have h1 : Blk w1 b1 (fM nm st v) 31 := hblk1
  simp only [↓vsd, vsn, gW, qd, qv, ev, pick, argE, zipE, ne_eq, eq_self, forall_const, implies_true, if_true, if_false, reduceIte, reduceCtorEq, Nat.reduceEqDiff, Nat.reduceAdd, Nat.reduceLT, ↓us_iCheckRepair, r_iCheckRepair, h1.facts, fMg]
  refine m_al ?_
  rintro b2 w2 hb2 hblk2 hx2 hs2
  have h2 : Blk w2 b2 (fQ b s) 33 := hblk2
  have h12 := h1.ext hx2
  have hx12 := hx1.trans hx2
  simp only [↓vsd, vsn, gW, qd, qv, ev, pick, argE, zipE, ne_eq, eq_self, forall_const, implies_true, if_true, if_false, reduceIte, reduceCtorEq, Nat.reduceEqDiff, Nat.reduceAdd, Nat.reduceLT, ↓us_iCheckRepair, r_iCheckRepair, h12.facts, h2.facts, fMg, fQg]
  refine m_call (igoodRepair_ok nm st v cs b s f t hnm hs hl hb _ (by first | exact h.ext hx12 | exact h.ext (dr hx12))) ?_
  rintro _ w3 hx3 rfl
  have hx3 : Ext w2 w3 := by first | exact hx3 | exact ud hx3 | exact ud (ud hx3)
  have hx13 := hx12.trans hx3
  have h13 := h12.ext hx3
  have h23 := h2.ext hx3
  have ho3 := h'.ext hx13
  by_cases hR : RepOk nm st cs b s f t
  · obtain ⟨n, rfl⟩ : ∃ n : Nat, st = n := ⟨st.toNat, by have := hR.2.1.1.2.1; omega⟩
    have hf : IsRow f ∧ f.length = n := ⟨hR.2.2.1.1, by have := hR.2.2.1.2; omega⟩
    have hM := hR.2.1
    have hd := decide_eq_true hR
    simp only [↓vsd, vsn, gW, qd, qv, ev, pick, argE, zipE, ne_eq, eq_self, forall_const, implies_true, if_true, if_false, reduceIte, reduceCtorEq, Nat.reduceEqDiff, Nat.reduceAdd, Nat.reduceLT, ↓us_iCheckRepair, r_iCheckRepair, hd, h13.facts, h23.facts, fMg, fQg]
    refine m_call (iGoodTouch_okt T (by omega) _) ?_
    rintro _ w4 hx4 rfl
    have hx4 : Ext w3 w4 := by first | exact hx4 | exact ud hx4 | exact ud (ud hx4)
    have hx14 := hx13.trans hx4
    have ho4 := ho3.ext hx4
    by_cases hTc : IsTch T
    · have hdT := decide_eq_true hTc
      have h14 := h13.ext hx4
      have h24 := h23.ext hx4
      simp only [↓vsd, vsn, gW, qd, qv, ev, pick, argE, zipE, ne_eq, eq_self, forall_const, implies_true, if_true, if_false, reduceIte, reduceCtorEq, Nat.reduceEqDiff, Nat.reduceAdd, Nat.reduceLT, ↓us_iCheckRepair, r_iCheckRepair, hdT, ho4.facts, h14.facts, h24.facts, fMg, fQg]
      have hMT : IsMT nm n cs b s T := ⟨hM, hTc⟩
      have hER := headP_row hM T T.length
      have htr : IsRow t ∧ t.length = n := ⟨hR.2.2.2.1.1, by have := hR.2.2.2.1.2; omega⟩
      refine ⟨fun _ => inR_i64 (by omega), fun hbad => ⟨hx14, ?_⟩, fun hgd => ?_⟩
      · exact (decide_eq_false fun hh : ChkOk nm n cs b s f t T ls => by have := hh.2.2.1; have := hh.2.2.2.1; omega).symm
      refine m_call (itouchEnd_ok nm n v cs b s T hMT _ (by first | exact h.ext hx14 | exact h.ext (dr hx14))) ?_
      rintro _ w5 hx5 rfl
      have hx5 : Ext w4 w5 := by first | exact hx5 | exact ud hx5 | exact ud (ud hx5)
      simp only [↓vsd, vsn, gW, qd, qv, ev, pick, argE, zipE, ne_eq, eq_self, forall_const, implies_true, if_true, if_false, reduceIte, reduceCtorEq, Nat.reduceEqDiff, Nat.reduceAdd, Nat.reduceLT, ↓us_iCheckRepair, r_iCheckRepair]
      refine m_call (itimes_ok f _ hER.1 (by rw [hf.2, hER.2]) _) ?_
      rintro _ w6 hx6 rfl
      have hx6 : Ext w5 w6 := by first | exact hx6 | exact ud hx6 | exact ud (ud hx6)
      have hx16 := (hx14.trans hx5).trans hx6
      have hx46 := hx5.trans hx6
      by_cases hend : timesL f (headP n cs b s T T.length) = t
      · have hhs3 : (hs3 (HC n cs b s)).length = 3 := rfl
        have hhr := hs3_rows hM
        have hcond : ChkOk nm n cs b s f t T ls ↔ ∀ i < ls.length, ls.getD i [] = layer (hs3 (HC n cs b s)) f i ∧ (t ∈ layer (hs3 (HC n cs b s)) f i ↔ i = T.length) := ⟨fun hh => hh.2.2.2.2.2, fun hh => ⟨hR, hTc, by omega, by omega, hend, hh⟩⟩
        have ho6 := ho4.ext hx46
        have h16 := h14.ext hx46
        have h26 := h24.ext hx46
        simp only [↓vsd, vsn, gW, qd, qv, ev, pick, argE, zipE, ne_eq, eq_self, forall_const, implies_true, if_true, if_false, reduceIte, reduceCtorEq, Nat.reduceEqDiff, Nat.reduceAdd, Nat.reduceLT, ↓us_iCheckRepair, r_iCheckRepair, hend]
        refine m_mkset ?_
        rintro m w7 hmb hm7 hx7 hs7
        simp only [↓vsd, vsn, gW, qd, qv, ev, pick, argE, zipE, ne_eq, eq_self, forall_const, implies_true, if_true, if_false, reduceIte, reduceCtorEq, Nat.reduceEqDiff, Nat.reduceAdd, Nat.reduceLT, ↓us_iCheckRepair, r_iCheckRepair]
        refine m_put hm7 ?_
        rintro w8 hm8 hu8
        have hmw : w.heap.size ≤ m := by have := hx16.size; omega
        have hx8 : Ext w6 w8 := hu8.below hx7 (by omega)
        simp only [↓vsd, vsn, gW, qd, qv, ev, pick, argE, zipE, ne_eq, eq_self, forall_const, implies_true, if_true, if_false, reduceIte, reduceCtorEq, Nat.reduceEqDiff, Nat.reduceAdd, Nat.reduceLT, ↓us_iCheckRepair, r_iCheckRepair]
        refine m_bsl (one_el rfl) ?_
        rintro b9 w9 hb9 hblk9 hx9 hs9
        simp only [↓vsd, vsn, gW, qd, qv, ev, pick, argE, zipE, ne_eq, eq_self, forall_const, implies_true, if_true, if_false, reduceIte, reduceCtorEq, Nat.reduceEqDiff, Nat.reduceAdd, Nat.reduceLT, ↓us_iCheckRepair, r_iCheckRepair]
        have hx69 := hx8.trans hx9
        have hm9 := hm8.ext hx9
        have hL9 : Own fS 1 9 w6.heap.size w9 (.slice (some ⟨b9, 0, none⟩) 1 1) [f] := Own.one fS_len hblk9 rfl (by have := hx8.size; omega)
        have ho9 := ho6.ext hx69
        simp only [↓vsd, vsn, gW, qd, qv, ev, pick, argE, zipE, ne_eq, eq_self, forall_const, implies_true, if_true, if_false, reduceIte, reduceCtorEq, Nat.reduceEqDiff, Nat.reduceAdd, Nat.reduceLT, ↓us_iCheckRepair, r_iCheckRepair, ho9.facts]
        refine m_upto ls.length (fun i vs w' => ∃ x S', vs = [x, .int .i64 i] ∧ Own fS 1 9 w6.heap.size w' x (layer (hs3 (HC n cs b s)) f (i - 1)) ∧ SetAt w' m S' ∧ (∀ y, y ∈ S' ↔ y ∈ (lays (hs3 (HC n cs b s)) f (i - 1)).flatten) ∧ (∀ j < i, ls.getD j [] = layer (hs3 (HC n cs b s)) f j ∧ (t ∈ layer (hs3 (HC n cs b s)) f j ↔ j = T.length)) ∧ Ext w6 w') ⟨_, _, rfl, hL9.to rfl, hm9, fun y => by simp [put1, lays], fun j hj => by omega, hx69⟩ ?_
        rintro i vs wa hi ⟨x, Sa, rfl, hoa, hma, hSa, hall, hxa⟩
        have hqa := ho6.ext hxa
        have h1a := h16.ext hxa
        have h2a := h26.ext hxa
        have hx0a := hx16.trans hxa
        by_cases hlt : i < ls.length
        · have hltI : (i : Int) < ls.length := by omega
          have hltJ : ¬ (ls.length : Int) ≤ i := by omega
          have hp8 := pow8 (show i ≤ 8 by omega)
          have hp81 := pow8 (show i - 1 ≤ 8 by omega)
          have hlp := layer_pow (hs3 (HC n cs b s)) f hhs3 (i - 1)
          have hlp2 := layer_pow (hs3 (HC n cs b s)) f hhs3 i
          obtain ⟨u, au, hu⟩ := hqa.at hlt
          by_cases hi0 : 0 < i
          · have hiI : 0 < (i : Int) := by omega
            simp only [↓vsd, vsn, gW, qd, qv, ev, pick, argE, zipE, ne_eq, eq_self, forall_const, implies_true, if_true, if_false, reduceIte, reduceCtorEq, Nat.reduceEqDiff, Nat.reduceAdd, Nat.reduceLT, ↓us_iCheckRepair, r_iCheckRepair, hltI, hltJ, hqa.facts, au, hiI, h1a.facts, h2a.facts, fMg, fQg]
            refine ⟨by omega, m_call (icallHeads_ok nm n v cs b s hM _ (by first | exact h.ext hx0a | exact h.ext (dr hx0a))) ?_⟩
            rintro hv wb hxb hoh
            have hxb : Ext wa wb := by first | exact hxb | exact ud hxb | exact ud (ud hxb)
            have eh : headsC nm n cs b s = hs3 (HC n cs b s) := by rw [headsC, if_pos hM]; rfl
            rw [eh] at hoh
            have hmb2 := hma.ext hxb
            simp only [↓vsd, vsn, gW, qd, qv, ev, pick, argE, zipE, ne_eq, eq_self, forall_const, implies_true, if_true, if_false, reduceIte, reduceCtorEq, Nat.reduceEqDiff, Nat.reduceAdd, Nat.reduceLT, ↓us_iCheckRepair, r_iCheckRepair]
            refine m_callw (by first | exact .inl rfl | exact .inr rfl) (inextLayer_ok n hv x (hs3 (HC n cs b s)) _ Sa m hhr (layer_rows hhr hf (i - 1)) ⟨by omega, by omega⟩ _ hoh.sq (hoa.ext hxb).sq hmb2) ?_
            rintro xz wz ⟨hoz, ⟨Sz, hmz, hSz⟩, hgz⟩
            have hly := layer_succ (hs3 (HC n cs b s)) f (i - 1)
            have hsucc := lays_succ (hs3 (HC n cs b s)) f (i - 1)
            rw [show i - 1 + 1 = i by omega] at hly hsucc
            rw [layNx_congr hSa, ← hly] at hoz
            have hSz : ∀ y, y ∈ Sz ↔ y ∈ (lays (hs3 (HC n cs b s)) f i).flatten := fun y => by
              rw [hSz, layNx_congr hSa, ← hly, hsucc, List.flatten_append, List.mem_append, hSa]
              simp
            have hxz : Ext w6 wz := ext_grow (hxa.trans hxb) hgz (fun c hc => by have := Option.some.inj hc; omega)
            have huz : Sq fS 1 wz u (ls.getD i []) := (hu.ext hxb).grow hgz hmb2
            have hoz := hoz.mono (B' := w6.heap.size) (hxa.trans hxb).size
            have hsrt : (layer (hs3 (HC n cs b s)) f i).Pairwise (· ≤ ·) := by rw [hly]; exact (layNx_rise _ _ _).sorted
            simp only [↓vsd, vsn, gW, qd, qv, ev, pick, argE, zipE, ne_eq, eq_self, forall_const, implies_true, if_true, if_false, reduceIte, reduceCtorEq, Nat.reduceEqDiff, Nat.reduceAdd, Nat.reduceLT, ↓us_iCheckRepair, r_iCheckRepair]
            refine m_call (xslices_Equal_string_string_ok xz u _ _ _ hoz.sq huz (by omega)) ?_
            rintro _ wy hxy rfl
            have hxy : Ext wz wy := by first | exact hxy | exact ud hxy | exact ud (ud hxy)
            have hoy := hoz.ext hxy
            have hmy := hmz.ext hxy
            have hx6y := hxz.trans hxy
            by_cases heq : layer (hs3 (HC n cs b s)) f i = ls.getD i []
            · simp only [↓vsd, vsn, gW, qd, qv, ev, pick, argE, zipE, ne_eq, eq_self, forall_const, implies_true, if_true, if_false, reduceIte, reduceCtorEq, Nat.reduceEqDiff, Nat.reduceAdd, Nat.reduceLT, ↓us_iCheckRepair, r_iCheckRepair, heq]
              refine m_call (ihas_ok xz _ t (by omega) hsrt _ (by first | exact hoy.sq | exact hoy.sq.ext (dr (Ext.refl _)))) ?_
              rintro _ wx hxx rfl
              have hxx : Ext wy wx := by first | exact hxx | exact ud hxx | exact ud (ud hxx)
              have hx6x := hx6y.trans hxx
              have hlast : ((i : Int) = (T.length : Int)) ↔ i = T.length := by omega
              by_cases hiff : (t ∈ layer (hs3 (HC n cs b s)) f i ↔ i = T.length)
              · have hbq : decide (t ∈ layer (hs3 (HC n cs b s)) f i) = decide ((i : Int) = (T.length : Int)) := decide_eq_decide.2 (hiff.trans hlast.symm)
                simp only [↓vsd, vsn, gW, qd, qv, ev, pick, argE, zipE, ne_eq, eq_self, forall_const, implies_true, if_true, if_false, reduceIte, reduceCtorEq, Nat.reduceEqDiff, Nat.reduceAdd, Nat.reduceLT, ↓us_iCheckRepair, r_iCheckRepair, hbq]
                exact ⟨inR_i64 (by omega), UpTo.next hlt ⟨xz, Sz, by simp, (hoy.ext hxx), hmy.ext hxx, hSz, fun j hj => by
                  by_cases hji : j = i
                  · subst hji; exact ⟨heq.symm, hiff⟩
                  · exact hall j (by omega), hx6x⟩⟩
              · have hno : ¬ ChkOk nm n cs b s f t T ls := fun hh => hiff ((hcond.1 hh i hlt).2)
                have hbq : ¬ decide (t ∈ layer (hs3 (HC n cs b s)) f i) = decide ((i : Int) = (T.length : Int)) := fun e => hiff ((decide_eq_decide.1 e).trans hlast)
                simp only [↓vsd, vsn, gW, qd, qv, ev, pick, argE, zipE, ne_eq, eq_self, forall_const, implies_true, if_true, if_false, reduceIte, reduceCtorEq, Nat.reduceEqDiff, Nat.reduceAdd, Nat.reduceLT, ↓us_iCheckRepair, r_iCheckRepair, hbq, hno]
                exact hx16.trans hx6x
            · have hno : ¬ ChkOk nm n cs b s f t T ls := fun hh => heq ((hcond.1 hh i hlt).1).symm
              simp only [↓vsd, vsn, gW, qd, qv, ev, pick, argE, zipE, ne_eq, eq_self, forall_const, implies_true, if_true, if_false, reduceIte, reduceCtorEq, Nat.reduceEqDiff, Nat.reduceAdd, Nat.reduceLT, ↓us_iCheckRepair, r_iCheckRepair, heq, hno]
              exact hx16.trans hx6y
          · have hiI : ¬ 0 < (i : Int) := by omega
            simp only [↓vsd, vsn, gW, qd, qv, ev, pick, argE, zipE, ne_eq, eq_self, forall_const, implies_true, if_true, if_false, reduceIte, reduceCtorEq, Nat.reduceEqDiff, Nat.reduceAdd, Nat.reduceLT, ↓us_iCheckRepair, r_iCheckRepair, hltI, hltJ, hqa.facts, au, hiI]
            have hi00 : i = 0 := by omega
            obtain ⟨wz, hwz⟩ : ∃ wz, wz = wa := ⟨_, rfl⟩
            obtain ⟨xz, hxzx⟩ : ∃ xz, xz = x := ⟨_, rfl⟩
            have hoz : Own fS 1 9 w6.heap.size wz xz (layer (hs3 (HC n cs b s)) f i) := by rw [hwz, hxzx]; exact hoa.to (by rw [hi00])
            have hmz : SetAt wz m Sa := by rw [hwz]; exact hma
            obtain ⟨Sz, hSzz⟩ : ∃ Sz, Sz = Sa := ⟨_, rfl⟩
            rw [← hSzz] at hmz
            have hSz : ∀ y, y ∈ Sz ↔ y ∈ (lays (hs3 (HC n cs b s)) f i).flatten := fun y => by rw [hSzz, hSa, hi00]
            have hxz : Ext w6 wz := by rw [hwz]; exact hxa
            have huz : Sq fS 1 wz u (ls.getD i []) := by rw [hwz]; exact hu
            have hsrt : (layer (hs3 (HC n cs b s)) f i).Pairwise (· ≤ ·) := by rw [hi00, layer_zero]; exact List.pairwise_singleton _ _
            refine ⟨by omega, ?_⟩
            rw [← hwz, ← hxzx]
            refine m_call (xslices_Equal_string_string_ok xz u _ _ _ hoz.sq huz (by omega)) ?_
            rintro _ wy hxy rfl
            have hxy : Ext wz wy := by first | exact hxy | exact ud hxy | exact ud (ud hxy)
            have hoy := hoz.ext hxy
            have hmy := hmz.ext hxy
            have hx6y := hxz.trans hxy
            by_cases heq : layer (hs3 (HC n cs b s)) f i = ls.getD i []
            · simp only [↓vsd, vsn, gW, qd, qv, ev, pick, argE, zipE, ne_eq, eq_self, forall_const, implies_true, if_true, if_false, reduceIte, reduceCtorEq, Nat.reduceEqDiff, Nat.reduceAdd, Nat.reduceLT, ↓us_iCheckRepair, r_iCheckRepair, heq]
              refine m_call (ihas_ok xz _ t (by omega) hsrt _ (by first | exact hoy.sq | exact hoy.sq.ext (dr (Ext.refl _)))) ?_
              rintro _ wx hxx rfl
              have hxx : Ext wy wx := by first | exact hxx | exact ud hxx | exact ud (ud hxx)
              have hx6x := hx6y.trans hxx
              have hlast : ((i : Int) = (T.length : Int)) ↔ i = T.length := by omega
              by_cases hiff : (t ∈ layer (hs3 (HC n cs b s)) f i ↔ i = T.length)
              · have hbq : decide (t ∈ layer (hs3 (HC n cs b s)) f i) = decide ((i : Int) = (T.length : Int)) := decide_eq_decide.2 (hiff.trans hlast.symm)
                simp only [↓vsd, vsn, gW, qd, qv, ev, pick, argE, zipE, ne_eq, eq_self, forall_const, implies_true, if_true, if_false, reduceIte, reduceCtorEq, Nat.reduceEqDiff, Nat.reduceAdd, Nat.reduceLT, ↓us_iCheckRepair, r_iCheckRepair, hbq]
                exact ⟨inR_i64 (by omega), UpTo.next hlt ⟨xz, Sz, by simp, (hoy.ext hxx), hmy.ext hxx, hSz, fun j hj => by
                  by_cases hji : j = i
                  · subst hji; exact ⟨heq.symm, hiff⟩
                  · exact hall j (by omega), hx6x⟩⟩
              · have hno : ¬ ChkOk nm n cs b s f t T ls := fun hh => hiff ((hcond.1 hh i hlt).2)
                have hbq : ¬ decide (t ∈ layer (hs3 (HC n cs b s)) f i) = decide ((i : Int) = (T.length : Int)) := fun e => hiff ((decide_eq_decide.1 e).trans hlast)
                simp only [↓vsd, vsn, gW, qd, qv, ev, pick, argE, zipE, ne_eq, eq_self, forall_const, implies_true, if_true, if_false, reduceIte, reduceCtorEq, Nat.reduceEqDiff, Nat.reduceAdd, Nat.reduceLT, ↓us_iCheckRepair, r_iCheckRepair, hbq, hno]
                exact hx16.trans hx6x
            · have hno : ¬ ChkOk nm n cs b s f t T ls := fun hh => heq ((hcond.1 hh i hlt).1).symm
              simp only [↓vsd, vsn, gW, qd, qv, ev, pick, argE, zipE, ne_eq, eq_self, forall_const, implies_true, if_true, if_false, reduceIte, reduceCtorEq, Nat.reduceEqDiff, Nat.reduceAdd, Nat.reduceLT, ↓us_iCheckRepair, r_iCheckRepair, heq, hno]
              exact hx16.trans hx6y
        · have hltI : ¬ (i : Int) < ls.length := by omega
          have hyes : ChkOk nm n cs b s f t T ls := hcond.2 fun j hj => hall j (by omega)
          simp only [↓vsd, vsn, gW, qd, qv, ev, pick, argE, zipE, ne_eq, eq_self, forall_const, implies_true, if_true, if_false, reduceIte, reduceCtorEq, Nat.reduceEqDiff, Nat.reduceAdd, Nat.reduceLT, ↓us_iCheckRepair, r_iCheckRepair, hltI, hyes]
          exact hx0a
      · have hno : ¬ ChkOk nm n cs b s f t T ls := fun hh => hend hh.2.2.2.2.1
        simp only [↓vsd, vsn, gW, qd, qv, ev, pick, argE, zipE, ne_eq, eq_self, forall_const, implies_true, if_true, if_false, reduceIte, reduceCtorEq, Nat.reduceEqDiff, Nat.reduceAdd, Nat.reduceLT, ↓us_iCheckRepair, r_iCheckRepair, hend, hno]
        exact hx16
    · have hno : ¬ ChkOk nm n cs b s f t T ls := fun hh => hTc hh.2.1
      have hdT := decide_eq_false hTc
      simp only [↓vsd, vsn, gW, qd, qv, ev, pick, argE, zipE, ne_eq, eq_self, forall_const, implies_true, if_true, if_false, reduceIte, reduceCtorEq, Nat.reduceEqDiff, Nat.reduceAdd, Nat.reduceLT, ↓us_iCheckRepair, r_iCheckRepair, hdT, hno]
      exact hx14
  · have hno : ¬ ChkOk nm st cs b s f t T ls := fun hh => hR hh.1
    have hd := decide_eq_false hR
    simp only [↓vsd, vsn, gW, qd, qv, ev, pick, argE, zipE, ne_eq, eq_self, forall_const, implies_true, if_true, if_false, reduceIte, reduceCtorEq, Nat.reduceEqDiff, Nat.reduceAdd, Nat.reduceLT, ↓us_iCheckRepair, r_iCheckRepair, hd, hno]
    exact hx13
theorem take_lays {hs : List Bs} {f : Bs} {ls : List (List Bs)} {i : Nat} (h1 : 1 ≤ i) (hi : i ≤ ls.length) (h : ∀ j < i, ls.getD j [] = layer hs f j) : ls.take i = lays hs f (i - 1) := by
  have hlen := lays_len hs f (i - 1)
  refine ext_getD (d := []) (by rw [List.length_take, hlen]; omega) fun j hj => ?_
  rw [List.length_take] at hj
  rw [lays_get hs f (i - 1) j (by omega), ← h j (by omega), List.getD_eq_getElem?_getD, List.getElem?_take_of_lt (by omega), ← List.getD_eq_getElem?_getD]
set_option maxHeartbeats 2000000 in
theorem sCheckRepair_ok (nm : List UInt8) (st : Int) (v o : Value) (cs : List (List UInt8)) (b s f t T : List UInt8) (ls : List (List Bs)) (hnm : nm.length ≤ 1048576) (hs : ∀ c ∈ cs, c.length ≤ 1048576) (hl : cs.length ≤ 1000000000) (hb : b.length ≤ 1048576 ∧ s.length ≤ 1048576) (hT : T.length ≤ 1048576) (hls : ls.length ≤ 1048576 ∧ ∀ x ∈ ls, x.length ≤ 1048576) (w : World) (h : Sq fS 1 w v cs) (h' : Sq2 fS w o ls) : Fn 37 [mV nm st v, kV b s, S f, S t, S T, o] w (fun r _ => r = .bool (decide (ChkOk nm st cs b s f t T ls))) := by
  (refine callsV_of mix Try.func37 c_sCheckRepair ?_; simp only [↓vsd, vsn, gW, qd, qv, ev, pick, argE, zipE, ne_eq, eq_self, forall_const, implies_true, if_true, if_false, reduceIte, reduceCtorEq, Nat.reduceEqDiff, Nat.reduceAdd, Nat.reduceLT, ↓us_sCheckRepair, r_sCheckRepair])
  refine m_al ?_
  rintro b1 w1 hb1 hblk1 hx1 hs1
  have h1 : Blk w1 b1 (fM nm st v) 31 := hblk1
  simp only [↓vsd, vsn, gW, qd, qv, ev, pick, argE, zipE, ne_eq, eq_self, forall_const, implies_true, if_true, if_false, reduceIte, reduceCtorEq, Nat.reduceEqDiff, Nat.reduceAdd, Nat.reduceLT, ↓us_sCheckRepair, r_sCheckRepair, h1.facts, fMg]
  refine m_al ?_
  rintro b2 w2 hb2 hblk2 hx2 hs2
  have h2 : Blk w2 b2 (fQ b s) 33 := hblk2
  have h12 := h1.ext hx2
  have hx12 := hx1.trans hx2
  simp only [↓vsd, vsn, gW, qd, qv, ev, pick, argE, zipE, ne_eq, eq_self, forall_const, implies_true, if_true, if_false, reduceIte, reduceCtorEq, Nat.reduceEqDiff, Nat.reduceAdd, Nat.reduceLT, ↓us_sCheckRepair, r_sCheckRepair, h12.facts, h2.facts, fMg, fQg]
  refine m_call (sl15Asked_ok nm st v cs b s f t hnm hs hl hb _ (by first | exact h.ext hx12 | exact h.ext (dr hx12))) ?_
  rintro _ w3 hx3 rfl
  have hx3 : Ext w2 w3 := by first | exact hx3 | exact ud hx3 | exact ud (ud hx3)
  have hx13 := hx12.trans hx3
  have h13 := h12.ext hx3
  have h23 := h2.ext hx3
  have ho3 := h'.ext hx13
  by_cases hR : RepOk nm st cs b s f t
  · obtain ⟨n, rfl⟩ : ∃ n : Nat, st = n := ⟨st.toNat, by have := hR.2.1.1.2.1; omega⟩
    have hf : IsRow f ∧ f.length = n := ⟨hR.2.2.1.1, by have := hR.2.2.1.2; omega⟩
    have hM := hR.2.1
    have hd := decide_eq_true hR
    simp only [↓vsd, vsn, gW, qd, qv, ev, pick, argE, zipE, ne_eq, eq_self, forall_const, implies_true, if_true, if_false, reduceIte, reduceCtorEq, Nat.reduceEqDiff, Nat.reduceAdd, Nat.reduceLT, ↓us_sCheckRepair, r_sCheckRepair, hd, h13.facts, h23.facts, fMg, fQg]
    refine m_call (sl9Good_okt T (by omega) _) ?_
    rintro _ w4 hx4 rfl
    have hx4 : Ext w3 w4 := by first | exact hx4 | exact ud hx4 | exact ud (ud hx4)
    have hx14 := hx13.trans hx4
    have ho4 := ho3.ext hx4
    have h14 := h13.ext hx4
    have h24 := h23.ext hx4
    by_cases hTc : IsTch T
    · have hdT := decide_eq_true hTc
      have hMT : IsMT nm n cs b s T := ⟨hM, hTc⟩
      have hER := headP_row hM T T.length
      by_cases hlen : T.length ≤ 8 ∧ ls.length = T.length + 1
      · have hl1 : (T.length : Int) ≤ 8 := by omega
        have hl2 : (ls.length : Int) = (T.length : Int) + 1 := by omega
        have hl3 : ¬ 8 < (T.length : Int) := by omega
        simp only [↓vsd, vsn, gW, qd, qv, ev, pick, argE, zipE, ne_eq, eq_self, forall_const, implies_true, if_true, if_false, reduceIte, reduceCtorEq, Nat.reduceEqDiff, Nat.reduceAdd, Nat.reduceLT, ↓us_sCheckRepair, r_sCheckRepair, hdT, ho4.facts, h14.facts, h24.facts, fMg, fQg, hl1, hl2, hl3]
        refine ⟨inR_i64 (by omega), m_call (sl9End_ok nm n v cs b s T hMT _ (by first | exact h.ext hx14 | exact h.ext (dr hx14))) ?_⟩
        rintro _ w5 hx5 rfl
        have hx5 : Ext w4 w5 := by first | exact hx5 | exact ud hx5 | exact ud (ud hx5)
        simp only [↓vsd, vsn, gW, qd, qv, ev, pick, argE, zipE, ne_eq, eq_self, forall_const, implies_true, if_true, if_false, reduceIte, reduceCtorEq, Nat.reduceEqDiff, Nat.reduceAdd, Nat.reduceLT, ↓us_sCheckRepair, r_sCheckRepair]
        refine m_call (sl1Times_ok f _ hER.1 (by rw [hf.2, hER.2]) _) ?_
        rintro _ w6 hx6 rfl
        have hx6 : Ext w5 w6 := by first | exact hx6 | exact ud hx6 | exact ud (ud hx6)
        have hx16 := (hx14.trans hx5).trans hx6
        have hx46 := hx5.trans hx6
        by_cases hend : timesL f (headP n cs b s T T.length) = t
        · have hhs3 : (hs3 (HC n cs b s)).length = 3 := rfl
          have hhr := hs3_rows hM
          have hcond : ChkOk nm n cs b s f t T ls ↔ ∀ i < ls.length, ls.getD i [] = layer (hs3 (HC n cs b s)) f i ∧ (t ∈ layer (hs3 (HC n cs b s)) f i ↔ i = T.length) := ⟨fun hh => hh.2.2.2.2.2, fun hh => ⟨hR, hTc, hlen.1, hlen.2, hend, hh⟩⟩
          have ho6 := ho4.ext hx46
          have h16 := h14.ext hx46
          have h26 := h24.ext hx46
          have hl0 : 0 < ls.length := by omega
          obtain ⟨u0, a0, hu0⟩ := ho6.at hl0
          have a00 : ∀ k : IntKind, ldV w6 (iaV 1 o (.int k 0)) = u0 ∧ ldD w6 (iaV 1 o (.int k 0)) = True := a0
          simp only [↓vsd, vsn, gW, qd, qv, ev, pick, argE, zipE, ne_eq, eq_self, forall_const, implies_true, if_true, if_false, reduceIte, reduceCtorEq, Nat.reduceEqDiff, Nat.reduceAdd, Nat.reduceLT, ↓us_sCheckRepair, r_sCheckRepair, hend, ho6.facts, a00]
          refine ⟨by omega, m_bsl (one_el rfl) ?_⟩
          rintro b7 w7 hb7 hblk7 hx7 hs7
          have hx7 : Ext w6 w7 := by first | exact hx7 | exact ud hx7 | exact ud (ud hx7)
          simp only [↓vsd, vsn, gW, qd, qv, ev, pick, argE, zipE, ne_eq, eq_self, forall_const, implies_true, if_true, if_false, reduceIte, reduceCtorEq, Nat.reduceEqDiff, Nat.reduceAdd, Nat.reduceLT, ↓us_sCheckRepair, r_sCheckRepair]
          have ho7 := ho6.ext hx7
          refine m_call (sl1SameS_ok u0 _ _ [f] _ (hu0.ext hx7) (Sq.one fS_len hblk7 rfl) (by have := hls.2 _ (getD_mem [] hl0); omega)) ?_
          rintro _ w8 hx8 rfl
          have hx8 : Ext w7 w8 := by first | exact hx8 | exact ud hx8 | exact ud (ud hx8)
          have hx68 := hx7.trans hx8
          have ho8 := ho6.ext hx68
          by_cases heq0 : ls.getD 0 [] = [f]
          · have hd0 := decide_eq_true heq0
            have hz0 : ls.getD 0 [] = layer (hs3 (HC n cs b s)) f 0 ∧ (t ∈ layer (hs3 (HC n cs b s)) f 0 ↔ 0 = T.length) := by
              refine ⟨heq0, ⟨fun hm => ?_, fun hm => ?_⟩⟩
              · rw [layer_zero, List.mem_singleton] at hm
                exact absurd hm.symm hR.2.2.2.2
              · have := hTc.1; omega
            have hj0 : ∀ j < 0 + 1, ls.getD j [] = layer (hs3 (HC n cs b s)) f j ∧ (t ∈ layer (hs3 (HC n cs b s)) f j ↔ j = T.length) := fun j hj => by
              obtain rfl : j = 0 := by omega
              exact hz0
            simp only [↓vsd, vsn, gW, qd, qv, ev, pick, argE, zipE, ne_eq, eq_self, forall_const, implies_true, if_true, if_false, reduceIte, reduceCtorEq, Nat.reduceEqDiff, Nat.reduceAdd, Nat.reduceLT, ↓us_sCheckRepair, r_sCheckRepair, hd0]
            refine m_upto ls.length (fun k vs w' => vs = [.int .i64 ((k : Int) + 1)] ∧ (∀ j < k + 1, j < ls.length → ls.getD j [] = layer (hs3 (HC n cs b s)) f j ∧ (t ∈ layer (hs3 (HC n cs b s)) f j ↔ j = T.length)) ∧ Ext w8 w') ⟨rfl, fun j hj _ => hj0 j hj, Ext.refl _⟩ ?_
            rintro k vs wa hk ⟨rfl, hall, hxa⟩
            have hx6a := hx68.trans hxa
            have hqa := ho6.ext hx6a
            have h1a := h16.ext hx6a
            have h2a := h26.ext hx6a
            have hx0a := hx16.trans hx6a
            by_cases hlt : k + 1 < ls.length
            · have hltI : ((k + 1 : Nat) : Int) < ls.length := by omega
              have eI : (k : Int) + 1 = ((k + 1 : Nat) : Int) := by omega
              obtain ⟨u, au, hu⟩ := hqa.at hlt
              obtain ⟨hh1, hh2⟩ := hqa.head .i64 (k + 1) (by omega)
              have htl := take_lays (i := k + 1) (by omega) (by omega) (fun j hj => (hall j hj (by omega)).1)
              rw [Nat.add_sub_cancel] at htl
              rw [htl] at hh2
              have hp8 := pow8 (show k ≤ 8 by omega)
              have hlp := layer_pow (hs3 (HC n cs b s)) f hhs3 k
              have hlt2 := lays_pow (hs3 (HC n cs b s)) f hhs3 k
              have hll := lays_len (hs3 (HC n cs b s)) f k
              have hgl := lays_get (hs3 (HC n cs b s)) f k k (Nat.le_refl _)
              have heach := lays_each (hs3 (HC n cs b s)) f k
              have aud : ∀ q : IntKind, ldV wa.drew (iaV 1 o (.int q ((k + 1 : Nat) : Int))) = u ∧ ldD wa.drew (iaV 1 o (.int q ((k + 1 : Nat) : Int))) = True := au
              simp only [↓vsd, vsn, gW, qd, qv, ev, pick, argE, zipE, ne_eq, eq_self, forall_const, implies_true, if_true, if_false, reduceIte, reduceCtorEq, Nat.reduceEqDiff, Nat.reduceAdd, Nat.reduceLT, ↓us_sCheckRepair, r_sCheckRepair, eI, hqa.facts, au, aud, hh1, h1a.facts, h2a.facts, fMg, fQg, hltI]
              refine ⟨by omega, ?_⟩
              refine m_call (sl15Next_ok nm n v _ cs b s (lays (hs3 (HC n cs b s)) f k) hM ⟨by omega, by omega⟩ (by rw [hll, Nat.add_sub_cancel, hgl]; exact layer_rows hhr hf k) ⟨by omega, by rw [hll, Nat.add_sub_cancel, hgl]; omega⟩ (fun l hl => by have := heach l hl; omega) _ (by first | exact h.ext hx0a | exact h.ext (dr hx0a)) (by first | exact hh2 | exact hh2.ext (dr (Ext.refl _)))) ?_
              rintro y wb hxb hoy
              have hxb : Ext wa wb := by first | exact hxb | exact ud hxb | exact ud (ud hxb)
              have hly := layer_succ (hs3 (HC n cs b s)) f k
              rw [hll, Nat.add_sub_cancel, hgl, ← hly] at hoy
              have hub := hu.ext hxb
              have hlp2 := layer_pow (hs3 (HC n cs b s)) f hhs3 (k + 1)
              simp only [↓vsd, vsn, gW, qd, qv, ev, pick, argE, zipE, ne_eq, eq_self, forall_const, implies_true, if_true, if_false, reduceIte, reduceCtorEq, Nat.reduceEqDiff, Nat.reduceAdd, Nat.reduceLT, ↓us_sCheckRepair, r_sCheckRepair]
              refine m_call (sl1SameS_ok u y _ _ _ (by first | exact hub | exact hub.ext (dr (Ext.refl _))) (by first | exact hoy.sq | exact hoy.sq.ext (dr (Ext.refl _))) (by have := hls.2 _ (getD_mem [] hlt); omega)) ?_
              rintro _ wc hxc rfl
              have hxc : Ext wb wc := by first | exact hxc | exact ud hxc | exact ud (ud hxc)
              have hxac := hxb.trans hxc
              have huc := hub.ext hxc
              have hx0c := hx0a.trans hxac
              have hlast : (((k + 1 : Nat) : Int) = (T.length : Int)) ↔ k + 1 = T.length := by omega
              by_cases heq : ls.getD (k + 1) [] = layer (hs3 (HC n cs b s)) f (k + 1)
              · have hdq := decide_eq_true heq
                have hqf := hqa.facts
                simp only [↓vsd, vsn, gW, qd, qv, ev, pick, argE, zipE, ne_eq, eq_self, forall_const, implies_true, if_true, if_false, reduceIte, reduceCtorEq, Nat.reduceEqDiff, Nat.reduceAdd, Nat.reduceLT, ↓us_sCheckRepair, r_sCheckRepair, hdq, aud, hqf]
                refine ⟨by omega, m_call (sl1HasS_ok u (ls.getD (k + 1) []) t (by have := hls.2 _ (getD_mem [] hlt); omega) _ (by first | exact huc | exact huc.ext (dr (Ext.refl _)))) ?_⟩
                rintro _ wd hxd rfl
                have hxd : Ext wc wd := by first | exact hxd | exact ud hxd | exact ud (ud hxd)
                have hxad := hxac.trans hxd
                rw [heq]
                by_cases hiff : (t ∈ layer (hs3 (HC n cs b s)) f (k + 1) ↔ k + 1 = T.length)
                · have hbq : decide (t ∈ layer (hs3 (HC n cs b s)) f (k + 1)) = decide (((k + 1 : Nat) : Int) = (T.length : Int)) := decide_eq_decide.2 (hiff.trans hlast.symm)
                  simp only [↓vsd, vsn, gW, qd, qv, ev, pick, argE, zipE, ne_eq, eq_self, forall_const, implies_true, if_true, if_false, reduceIte, reduceCtorEq, Nat.reduceEqDiff, Nat.reduceAdd, Nat.reduceLT, ↓us_sCheckRepair, r_sCheckRepair, hbq]
                  refine ⟨inR_i64 (by omega), UpTo.next (by omega) ⟨by simp, fun j hj hjl => ?_, hxa.trans hxad⟩⟩
                  by_cases hji : j = k + 1
                  · subst hji; exact ⟨heq, hiff⟩
                  · exact hall j (by omega) hjl
                · have hno : ¬ ChkOk nm n cs b s f t T ls := fun hh => hiff ((hcond.1 hh (k + 1) hlt).2)
                  have hbq : ¬ decide (t ∈ layer (hs3 (HC n cs b s)) f (k + 1)) = decide (((k + 1 : Nat) : Int) = (T.length : Int)) := fun e => hiff ((decide_eq_decide.1 e).trans hlast)
                  simp only [↓vsd, vsn, gW, qd, qv, ev, pick, argE, zipE, ne_eq, eq_self, forall_const, implies_true, if_true, if_false, reduceIte, reduceCtorEq, Nat.reduceEqDiff, Nat.reduceAdd, Nat.reduceLT, ↓us_sCheckRepair, r_sCheckRepair, hbq, hno]
                  exact hx0c.trans hxd
              · have hno : ¬ ChkOk nm n cs b s f t T ls := fun hh => heq ((hcond.1 hh (k + 1) hlt).1)
                have hdq := decide_eq_false heq
                simp only [↓vsd, vsn, gW, qd, qv, ev, pick, argE, zipE, ne_eq, eq_self, forall_const, implies_true, if_true, if_false, reduceIte, reduceCtorEq, Nat.reduceEqDiff, Nat.reduceAdd, Nat.reduceLT, ↓us_sCheckRepair, r_sCheckRepair, hdq, hno]
                exact hx0c
            · have hltI : ¬ (k : Int) + 1 < ls.length := by omega
              have hyes : ChkOk nm n cs b s f t T ls := hcond.2 fun j hj => hall j (by omega) hj
              simp only [↓vsd, vsn, gW, qd, qv, ev, pick, argE, zipE, ne_eq, eq_self, forall_const, implies_true, if_true, if_false, reduceIte, reduceCtorEq, Nat.reduceEqDiff, Nat.reduceAdd, Nat.reduceLT, ↓us_sCheckRepair, r_sCheckRepair, hqa.facts, hltI, hyes]
              exact hx0a
          · have hno : ¬ ChkOk nm n cs b s f t T ls := fun hh => heq0 ((hcond.1 hh 0 hl0).1)
            have hd0 := decide_eq_false heq0
            simp only [↓vsd, vsn, gW, qd, qv, ev, pick, argE, zipE, ne_eq, eq_self, forall_const, implies_true, if_true, if_false, reduceIte, reduceCtorEq, Nat.reduceEqDiff, Nat.reduceAdd, Nat.reduceLT, ↓us_sCheckRepair, r_sCheckRepair, hd0, hno]
            exact hx16.trans hx68
        · have hno : ¬ ChkOk nm n cs b s f t T ls := fun hh => hend hh.2.2.2.2.1
          simp only [↓vsd, vsn, gW, qd, qv, ev, pick, argE, zipE, ne_eq, eq_self, forall_const, implies_true, if_true, if_false, reduceIte, reduceCtorEq, Nat.reduceEqDiff, Nat.reduceAdd, Nat.reduceLT, ↓us_sCheckRepair, r_sCheckRepair, hend, hno]
          exact hx16
      · have hno : ¬ ChkOk nm n cs b s f t T ls := fun hh => hlen ⟨hh.2.2.1, hh.2.2.2.1⟩
        by_cases hl1 : (T.length : Int) ≤ 8
        · have hl2 : ¬ (ls.length : Int) = (T.length : Int) + 1 := by omega
          have hl3 : ¬ 8 < (T.length : Int) := by omega
          simp only [↓vsd, vsn, gW, qd, qv, ev, pick, argE, zipE, ne_eq, eq_self, forall_const, implies_true, if_true, if_false, reduceIte, reduceCtorEq, Nat.reduceEqDiff, Nat.reduceAdd, Nat.reduceLT, ↓us_sCheckRepair, r_sCheckRepair, hdT, ho4.facts, hl1, hl2, hl3, hno]
          exact ⟨inR_i64 (by omega), hx14⟩
        · have hl3 : 8 < (T.length : Int) := by omega
          simp only [↓vsd, vsn, gW, qd, qv, ev, pick, argE, zipE, ne_eq, eq_self, forall_const, implies_true, if_true, if_false, reduceIte, reduceCtorEq, Nat.reduceEqDiff, Nat.reduceAdd, Nat.reduceLT, ↓us_sCheckRepair, r_sCheckRepair, hdT, ho4.facts, hl1, hl3, hno]
          exact hx14
    · have hno : ¬ ChkOk nm n cs b s f t T ls := fun hh => hTc hh.2.1
      have hdT := decide_eq_false hTc
      simp only [↓vsd, vsn, gW, qd, qv, ev, pick, argE, zipE, ne_eq, eq_self, forall_const, implies_true, if_true, if_false, reduceIte, reduceCtorEq, Nat.reduceEqDiff, Nat.reduceAdd, Nat.reduceLT, ↓us_sCheckRepair, r_sCheckRepair, hdT, hno]
      exact hx14
  · have hno : ¬ ChkOk nm st cs b s f t T ls := fun hh => hR hh.1
    have hd := decide_eq_false hR
    simp only [↓vsd, vsn, gW, qd, qv, ev, pick, argE, zipE, ne_eq, eq_self, forall_const, implies_true, if_true, if_false, reduceIte, reduceCtorEq, Nat.reduceEqDiff, Nat.reduceAdd, Nat.reduceLT, ↓us_sCheckRepair, r_sCheckRepair, hd, hno]
    exact hx13
theorem lszStringSS_ok (v : Value) (ls : List (List Bs)) (n : Int) (hn : 0 ≤ n ∧ n ≤ 1048576) (hl : ls.length ≤ 9223372036854775807) (hs : ∀ x ∈ ls, x.length ≤ 9223372036854775807 ∧ ∀ y ∈ x, y.length ≤ 9223372036854775807) (w : World) (h : Sq2 fS w v ls) :
    Fn 36 [v, .int .i64 n] w (fun v _ => ∃ m : Int, v = .int .i64 m ∧ m ≤ 1048576 ∧ (0 ≤ m → ls.length ≤ 1048576 ∧ ∀ x ∈ ls, x.length ≤ 1048576)) := by
  (refine callsV_of mix Try.func36 c_lszStringSS ?_; simp only [↓vsd, vsn, gW, qd, qv, ev, pick, argE, zipE, ne_eq, eq_self, forall_const, implies_true, if_true, if_false, reduceIte, reduceCtorEq, Nat.reduceEqDiff, Nat.reduceAdd, Nat.reduceLT, ↓us_lszStringSS, r_lszStringSS])
  simp only [↓vsd, vsn, gW, qd, qv, ev, pick, argE, zipE, ne_eq, eq_self, forall_const, implies_true, if_true, if_false, reduceIte, reduceCtorEq, Nat.reduceEqDiff, Nat.reduceAdd, Nat.reduceLT, ↓us_lszStringSS, r_lszStringSS, h.facts]
  refine ⟨inR_i64 (by omega), fun hneg => ⟨Ext.refl _, -1, rfl, by omega, fun hh => by omega⟩, fun hpos => ?_⟩
  have hll : ls.length ≤ 1048576 := by omega
  refine m_upto ls.length (fun i vs w' => ∃ m : Int, vs = [.int .i64 m, .int .i64 i] ∧ 0 ≤ m ∧ m ≤ 1048576 ∧ (∀ j < i, (ls.getD j []).length ≤ 1048576) ∧ Ext w w') ⟨n - ls.length, rfl, by omega, by omega, fun j hj => by omega, Ext.refl _⟩ ?_
  rintro i vs w1 hi ⟨m, rfl, hm0, hm1, hall, hx1⟩
  have hq1 := h.ext hx1
  by_cases hlt : i < ls.length
  · have hltI : (i : Int) < ls.length := by omega
    have hltJ : ¬ (ls.length : Int) ≤ i := by omega
    obtain ⟨u, au, hu⟩ := hq1.at hlt
    have hss := hs _ (getD_mem [] hlt)
    simp only [↓vsd, vsn, gW, qd, qv, ev, pick, argE, zipE, ne_eq, eq_self, forall_const, implies_true, if_true, if_false, reduceIte, reduceCtorEq, Nat.reduceEqDiff, Nat.reduceAdd, Nat.reduceLT, ↓us_lszStringSS, r_lszStringSS, hltI, hltJ, hq1.facts, au]
    refine ⟨by omega, m_call (lszStringS_ok u _ m ⟨hm0, hm1⟩ hss.1 hss.2 _ (by first | exact hu | exact hu.ext (dr (Ext.refl _)))) ?_⟩
    rintro _ w2 hx2 ⟨m2, rfl, hm21, hm2⟩
    have hx2 : Ext w1 w2 := by first | exact hx2 | exact ud hx2 | exact ud (ud hx2)
    simp only [↓vsd, vsn, gW, qd, qv, ev, pick, argE, zipE, ne_eq, eq_self, forall_const, implies_true, if_true, if_false, reduceIte, reduceCtorEq, Nat.reduceEqDiff, Nat.reduceAdd, Nat.reduceLT, ↓us_lszStringSS, r_lszStringSS]
    refine ⟨fun hneg => ⟨hx1.trans hx2, -1, rfl, by omega, fun hh => by omega⟩, fun hpos2 => ⟨inR_i64 (by omega), UpTo.next hlt ⟨m2, by simp, hpos2, hm21, fun j hj => ?_, hx1.trans hx2⟩⟩⟩
    by_cases hji : j = i
    · subst hji; exact (hm2 hpos2).1
    · exact hall j (by omega)
  · obtain rfl : i = ls.length := by omega
    have hltI : ¬ (ls.length : Int) < ls.length := by omega
    simp only [↓vsd, vsn, gW, qd, qv, ev, pick, argE, zipE, ne_eq, eq_self, forall_const, implies_true, if_true, if_false, reduceIte, reduceCtorEq, Nat.reduceEqDiff, Nat.reduceAdd, Nat.reduceLT, ↓us_lszStringSS, r_lszStringSS, hq1.facts, hltI]
    refine ⟨hx1, m, rfl, hm1, fun _ => ⟨hll, fun x hx => ?_⟩⟩
    obtain ⟨j, hj, rfl⟩ := List.getElem_of_mem hx
    have := hall j hj
    rwa [List.getD_eq_getElem?_getD, List.getElem?_eq_getElem hj] at this
theorem ltoStringSS_ok (v : Value) (ls : List (List Bs)) (hl : ls.length ≤ 1048576 ∧ ∀ x ∈ ls, x.length ≤ 1048576) (w : World) (h : Sq2 fS w v ls) : Fn 38 [v] w (fun r w' => Sq2 fS w' r ls) := by
  (refine callsV_of mix Try.func38 c_ltoStringSS ?_; simp only [↓vsd, vsn, gW, qd, qv, ev, pick, argE, zipE, ne_eq, eq_self, forall_const, implies_true, if_true, if_false, reduceIte, reduceCtorEq, Nat.reduceEqDiff, Nat.reduceAdd, Nat.reduceLT, ↓us_ltoStringSS, r_ltoStringSS])
  simp only [↓vsd, vsn, gW, qd, qv, ev, pick, argE, zipE, ne_eq, eq_self, forall_const, implies_true, if_true, if_false, reduceIte, reduceCtorEq, Nat.reduceEqDiff, Nat.reduceAdd, Nat.reduceLT, ↓us_ltoStringSS, r_ltoStringSS, h.facts]
  refine m_msl SV.nil fSV_len rfl (by omega) (by decide) (Nat.le_refl _) ?_
  rintro o1 w1 ho1 hb1 hx1
  simp only [↓vsd, vsn, gW, qd, qv, ev, pick, argE, zipE, ne_eq, eq_self, forall_const, implies_true, if_true, if_false, reduceIte, reduceCtorEq, Nat.reduceEqDiff, Nat.reduceAdd, Nat.reduceLT, ↓us_ltoStringSS, r_ltoStringSS]
  refine m_upto ls.length (fun i vs w' => vs = [.int .i64 i] ∧ (∃ us : List SV, Own fSV 1 22 w.heap.size w' o1 us ∧ us.length = ls.length ∧ ∀ j < i, Own fS 1 9 w.heap.size w' (us.getD j SV.nil).v (ls.getD j []) ∧ ∀ c, (us.getD j SV.nil).v.ownBlock = some c → o1.ownBlock ≠ some c) ∧ Ext w w') ⟨rfl, ⟨_, ho1, by simp, fun j hj => by omega⟩, hx1⟩ ?_
  rintro i vs w2 hi ⟨rfl, ⟨us, hou, hul, hin⟩, hx2⟩
  have hq2 := h.ext hx2
  by_cases hlt : i < ls.length
  · have hltI : (i : Int) < ls.length := by omega
    have hltJ : ¬ (ls.length : Int) ≤ i := by omega
    obtain ⟨u, au, hu⟩ := hq2.at hlt
    simp only [↓vsd, vsn, gW, qd, qv, ev, pick, argE, zipE, ne_eq, eq_self, forall_const, implies_true, if_true, if_false, reduceIte, reduceCtorEq, Nat.reduceEqDiff, Nat.reduceAdd, Nat.reduceLT, ↓us_ltoStringSS, r_ltoStringSS, hltI, hltJ, hq2.facts, au]
    refine ⟨by omega, m_call (ltoStringS_ok u _ (hl.2 _ (getD_mem [] hlt)) _ (by first | exact hu | exact hu.ext (dr (Ext.refl _)))) ?_⟩
    rintro y w3 hx3 hoy
    have hx3 : Ext w2 w3 := by first | exact hx3 | exact ud hx3 | exact ud (ud hx3)
    obtain ⟨sv, rfl⟩ := hoy.sq.sv
    have hou3 := hou.ext hx3
    simp only [↓vsd, vsn, gW, qd, qv, ev, pick, argE, zipE, ne_eq, eq_self, forall_const, implies_true, if_true, if_false, reduceIte, reduceCtorEq, Nat.reduceEqDiff, Nat.reduceAdd, Nat.reduceLT, ↓us_ltoStringSS, r_ltoStringSS, hou3.sq.facts, hul]
    refine ⟨by omega, m_set1 i sv hou3 rfl (by omega) rfl fSV_one ?_⟩
    rintro w4 ho4 hg4 _
    have hx4 : Ext w w4 := hou3.grown (hx2.trans hx3) (Nat.le_refl _) hg4
    simp only [↓vsd, vsn, gW, qd, qv, ev, pick, argE, zipE, ne_eq, eq_self, forall_const, implies_true, if_true, if_false, reduceIte, reduceCtorEq, Nat.reduceEqDiff, Nat.reduceAdd, Nat.reduceLT, ↓us_ltoStringSS, r_ltoStringSS]
    refine ⟨inR_i64 (by omega), UpTo.next hlt ⟨by simp, ⟨_, ho4, by rw [List.length_set, hul], fun j hj => ?_⟩, hx4⟩⟩
    rw [getD_set]
    by_cases hji : i = j
    · subst hji
      rw [if_pos ⟨rfl, by omega⟩]
      have hne : ∀ c, sv.v.ownBlock = some c → o1.ownBlock ≠ some c := fun c hc e => by
        have := (hoy.bound c hc).1
        have := hou.lt c e
        omega
      exact ⟨(hoy.off hg4 (fun c hc e => hne c e hc)).mono hx2.size, hne⟩
    · rw [if_neg (fun hh => hji hh.1)]
      obtain ⟨q1, q2⟩ := hin j (by omega)
      exact ⟨(q1.ext hx3).off hg4 (fun c hc e => q2 c e hc), q2⟩
  · obtain rfl : i = ls.length := by omega
    have hltI : ¬ (ls.length : Int) < ls.length := by omega
    simp only [↓vsd, vsn, gW, qd, qv, ev, pick, argE, zipE, ne_eq, eq_self, forall_const, implies_true, if_true, if_false, reduceIte, reduceCtorEq, Nat.reduceEqDiff, Nat.reduceAdd, Nat.reduceLT, ↓us_ltoStringSS, r_ltoStringSS, hq2.facts, hltI]
    exact ⟨hx2, us, hou.sq, hul, fun j hj => (hin j hj).1.sq⟩
theorem leqStringSS_big (v1 v2 : Value) (l1 l2 : List (List Bs)) (w : World) (h1 : Sq2 fS w v1 l1) (h2 : Sq2 fS w v2 l2) (hl : l1.length ≤ 1000000000) (hs : ∀ x ∈ l1, x.length ≤ 1000000000) : Fn 29 [v1, v2] w (fun v _ => v = .bool (decide (l1 = l2))) := by
  (refine callsV_of mix Try.func29 c_leqStringSS ?_; simp only [↓vsd, vsn, gW, qd, qv, ev, pick, argE, zipE, ne_eq, eq_self, forall_const, implies_true, if_true, if_false, reduceIte, reduceCtorEq, Nat.reduceEqDiff, Nat.reduceAdd, Nat.reduceLT, ↓us_leqStringSS, r_leqStringSS])
  simp only [↓vsd, vsn, gW, qd, qv, ev, pick, argE, zipE, ne_eq, eq_self, forall_const, implies_true, if_true, if_false, reduceIte, reduceCtorEq, Nat.reduceEqDiff, Nat.reduceAdd, Nat.reduceLT, ↓us_leqStringSS, r_leqStringSS, h1.facts, h2.facts]
  refine ⟨fun hne => ⟨Ext.refl _, by have : ¬ l1 = l2 := fun e => hne (by rw [e]); simp [this]⟩, fun he => ?_⟩
  have he : l1.length = l2.length := by omega
  refine m_upto l1.length (fun i vs w' => vs = [.int .i64 i] ∧ (∀ j < i, l1.getD j [] = l2.getD j []) ∧ Ext w w') ⟨rfl, fun j hj => by omega, Ext.refl _⟩ ?_
  rintro i vs w1 hi ⟨rfl, hall, hx1⟩
  have hq1 := h1.ext hx1
  have hq2 := h2.ext hx1
  by_cases hlt : i < l1.length
  · have hltI : (i : Int) < l1.length := by omega
    have hltJ : ¬ (l1.length : Int) ≤ i := by omega
    obtain ⟨u1, a1, hu1⟩ := hq1.at hlt
    obtain ⟨u2, a2, hu2⟩ := hq2.at (show i < l2.length by omega)
    simp only [↓vsd, vsn, gW, qd, qv, ev, pick, argE, zipE, ne_eq, eq_self, forall_const, implies_true, if_true, if_false, reduceIte, reduceCtorEq, Nat.reduceEqDiff, Nat.reduceAdd, Nat.reduceLT, ↓us_leqStringSS, r_leqStringSS, hltI, hltJ, hq1.facts, hq2.facts, a1, a2]
    refine ⟨by omega, by omega, m_call (leqStringS_ok u1 u2 _ _ _ (by first | exact hu1 | exact hu1.ext (dr (Ext.refl _))) (by first | exact hu2 | exact hu2.ext (dr (Ext.refl _))) (by have := hs _ (getD_mem [] hlt); omega)) ?_⟩
    rintro _ w2 hx2 rfl
    have hx2 : Ext w1 w2 := by first | exact hx2 | exact ud hx2 | exact ud (ud hx2)
    have hx12 := hx1.trans hx2
    simp only [↓vsd, vsn, gW, qd, qv, ev, pick, argE, zipE, ne_eq, eq_self, forall_const, implies_true, if_true, if_false, reduceIte, reduceCtorEq, Nat.reduceEqDiff, Nat.reduceAdd, Nat.reduceLT, ↓us_leqStringSS, r_leqStringSS]
    refine ⟨fun hne => ⟨hx12, ?_⟩, fun heq => ⟨inR_i64 (by omega), UpTo.next hlt ⟨by simp, fun j hj => ?_, hx12⟩⟩⟩
    · exact (decide_eq_false fun e => hne (by rw [e])).symm
    · by_cases hji : j = i
      · subst hji; exact heq
      · exact hall j (by omega)
  · obtain rfl : i = l1.length := by omega
    have hltI : ¬ (l1.length : Int) < l1.length := by omega
    simp only [↓vsd, vsn, gW, qd, qv, ev, pick, argE, zipE, ne_eq, eq_self, forall_const, implies_true, if_true, if_false, reduceIte, reduceCtorEq, Nat.reduceEqDiff, Nat.reduceAdd, Nat.reduceLT, ↓us_leqStringSS, r_leqStringSS, hq1.facts, hltI]
    exact ⟨hx1, (decide_eq_true (ext_getD he hall)).symm⟩
theorem lFnExactCheckRepair_ok (nm : List UInt8) (st : Int) (v o : Value) (cs : List (List UInt8)) (b s f t T : List UInt8) (ls : List (List Bs)) (hnm : nm.length ≤ 9223372036854775807) (hl : cs.length ≤ 9223372036854775807) (hs : ∀ x ∈ cs, x.length ≤ 9223372036854775807) (hb : b.length ≤ 9223372036854775807 ∧ s.length ≤ 9223372036854775807) (hbl : ls.length ≤ 9223372036854775807) (hbs : ∀ x ∈ ls, x.length ≤ 9223372036854775807 ∧ ∀ y ∈ x, y.length ≤ 9223372036854775807) (w : World) (h : Sq fS 1 w v cs) (h' : Sq2 fS w o ls) : Fn 8 [mV nm st v, kV b s, S f, S t, S T, o] w (fun r _ => r = .bool true) := by
  (refine callsV_of mix Try.func8 c_lFnExactCheckRepair ?_; simp only [↓vsd, vsn, gW, qd, qv, ev, pick, argE, zipE, ne_eq, eq_self, forall_const, implies_true, if_true, if_false, reduceIte, reduceCtorEq, Nat.reduceEqDiff, Nat.reduceAdd, Nat.reduceLT, ↓us_lFnExactCheckRepair, r_lFnExactCheckRepair])
  refine m_al ?_
  rintro b1 w1 hb1 hblk1 hx1 hs1
  have h1 : Blk w1 b1 (fM nm st v) 24 := hblk1
  simp only [↓vsd, vsn, gW, qd, qv, ev, pick, argE, zipE, ne_eq, eq_self, forall_const, implies_true, if_true, if_false, reduceIte, reduceCtorEq, Nat.reduceEqDiff, Nat.reduceAdd, Nat.reduceLT, ↓us_lFnExactCheckRepair, r_lFnExactCheckRepair, h1.facts, fMg]
  refine m_al ?_
  rintro b2 w2 hb2 hblk2 hx2 hs2
  have h2 : Blk w2 b2 (fQ b s) 26 := hblk2
  have h12 := h1.ext hx2
  have hx12 := hx1.trans hx2
  simp only [↓vsd, vsn, gW, qd, qv, ev, pick, argE, zipE, ne_eq, eq_self, forall_const, implies_true, if_true, if_false, reduceIte, reduceCtorEq, Nat.reduceEqDiff, Nat.reduceAdd, Nat.reduceLT, ↓us_lFnExactCheckRepair, r_lFnExactCheckRepair, h12.facts, h2.facts, fMg, fQg]
  refine ⟨fun _ => hx12, fun hcf => ⟨fun _ => hx12, fun hct => ⟨fun _ => hx12, fun hcT => ?_⟩⟩⟩
  refine m_call (lszMethod_ok nm st v cs 1048576 (by decide) hnm hl hs _ (h.ext hx12)) ?_
  rintro _ w3 hx3 ⟨m, rfl, hm1, hm⟩
  have hx13 := hx12.trans hx3
  have h13 := h12.ext hx3
  have h23 := h2.ext hx3
  simp only [↓vsd, vsn, gW, qd, qv, ev, pick, argE, zipE, ne_eq, eq_self, forall_const, implies_true, if_true, if_false, reduceIte, reduceCtorEq, Nat.reduceEqDiff, Nat.reduceAdd, Nat.reduceLT, ↓us_lFnExactCheckRepair, r_lFnExactCheckRepair, h13.facts, h23.facts, fMg, fQg]
  refine ⟨fun _ => hx13, fun h0 => ?_⟩
  obtain ⟨hnm, hl, hs⟩ := hm h0
  refine m_call (lszCalls_ok b s m ⟨hm1, h0⟩ hb _) ?_
  rintro _ w4 hx4 ⟨m2, rfl, hm21, hm2⟩
  have hx14 := hx13.trans hx4
  have h14 := h13.ext hx4
  have h24 := h23.ext hx4
  simp only [↓vsd, vsn, gW, qd, qv, ev, pick, argE, zipE, ne_eq, eq_self, forall_const, implies_true, if_true, if_false, reduceIte, reduceCtorEq, Nat.reduceEqDiff, Nat.reduceAdd, Nat.reduceLT, ↓us_lFnExactCheckRepair, r_lFnExactCheckRepair, h14.facts, h24.facts, fMg, fQg]
  refine ⟨fun _ => hx14, fun h02 => ?_⟩
  have hb := hm2 h02
  refine m_call (lszStringSS_ok o ls m2 ⟨h02, by omega⟩ hbl hbs _ (by first | exact h'.ext hx14 | exact h'.ext (dr hx14))) ?_
  rintro _ w44 hx44 ⟨m3, rfl, hm31, hm3⟩
  have hx44 : Ext w4 w44 := by first | exact hx44 | exact ud hx44 | exact ud (ud hx44)
  have hx14 := hx14.trans hx44
  have h14 := h14.ext hx44
  have h24 := h24.ext hx44
  simp only [↓vsd, vsn, gW, qd, qv, ev, pick, argE, zipE, ne_eq, eq_self, forall_const, implies_true, if_true, if_false, reduceIte, reduceCtorEq, Nat.reduceEqDiff, Nat.reduceAdd, Nat.reduceLT, ↓us_lFnExactCheckRepair, r_lFnExactCheckRepair, h14.facts, h24.facts, fMg, fQg]
  refine ⟨fun _ => hx14, fun h03 => ?_⟩
  have hls := hm3 h03
  refine m_call (ltoMethod_ok nm st v cs hl _ (by first | exact h.ext hx14 | exact h.ext (dr hx14))) ?_
  rintro _ w5 hx5 ⟨x5, rfl, ho5⟩
  have hx5 : Ext w44 w5 := by first | exact hx5 | exact ud hx5 | exact ud (ud hx5)
  have h25 := h24.ext hx5
  have hx15 := hx14.trans hx5
  simp only [↓vsd, vsn, gW, qd, qv, ev, pick, argE, zipE, ne_eq, eq_self, forall_const, implies_true, if_true, if_false, reduceIte, reduceCtorEq, Nat.reduceEqDiff, Nat.reduceAdd, Nat.reduceLT, ↓us_lFnExactCheckRepair, r_lFnExactCheckRepair, h25.facts, fQg]
  refine m_call (ltoCalls_ok b s _) ?_
  rintro _ w6 hx6 rfl
  have hx6 : Ext w5 w6 := by first | exact hx6 | exact ud hx6 | exact ud (ud hx6)
  have hx16 := hx15.trans hx6
  simp only [↓vsd, vsn, gW, qd, qv, ev, pick, argE, zipE, ne_eq, eq_self, forall_const, implies_true, if_true, if_false, reduceIte, reduceCtorEq, Nat.reduceEqDiff, Nat.reduceAdd, Nat.reduceLT, ↓us_lFnExactCheckRepair, r_lFnExactCheckRepair]
  refine m_call (ltoStringSS_ok o ls hls _ (by first | exact h'.ext hx16 | exact h'.ext (dr hx16))) ?_
  rintro y6 w66 hx66 hy6
  have hx66 : Ext w6 w66 := by first | exact hx66 | exact ud hx66 | exact ud (ud hx66)
  have hx16 := hx16.trans hx66
  simp only [↓vsd, vsn, gW, qd, qv, ev, pick, argE, zipE, ne_eq, eq_self, forall_const, implies_true, if_true, if_false, reduceIte, reduceCtorEq, Nat.reduceEqDiff, Nat.reduceAdd, Nat.reduceLT, ↓us_lFnExactCheckRepair, r_lFnExactCheckRepair]
  refine m_call (sCheckRepair_ok nm st x5 y6 cs b s f t T ls hnm hs (by omega) hb (by omega) hls _ ((ho5.ext hx6).ext hx66).sq hy6) ?_
  rintro _ w7 hx7 rfl
  have hx7 : Ext w66 w7 := by first | exact hx7 | exact ud hx7 | exact ud (ud hx7)
  generalize hR : decide (ChkOk nm st cs b s f t T ls) = R
  have hx57 := ((hx5.trans hx6).trans hx66).trans hx7
  have hx17 := hx14.trans hx57
  have h17 := h14.ext hx57
  have h27 := h24.ext hx57
  simp only [↓vsd, vsn, gW, qd, qv, ev, pick, argE, zipE, ne_eq, eq_self, forall_const, implies_true, if_true, if_false, reduceIte, reduceCtorEq, Nat.reduceEqDiff, Nat.reduceAdd, Nat.reduceLT, ↓us_lFnExactCheckRepair, r_lFnExactCheckRepair, h17.facts, h27.facts, fMg, fQg]
  refine m_call (ltoMethod_ok nm st v cs hl _ (by first | exact h.ext hx17 | exact h.ext (dr hx17))) ?_
  rintro _ w8 hx8 ⟨x8, rfl, ho8⟩
  have hx8 : Ext w7 w8 := by first | exact hx8 | exact ud hx8 | exact ud (ud hx8)
  simp only [↓vsd, vsn, gW, qd, qv, ev, pick, argE, zipE, ne_eq, eq_self, forall_const, implies_true, if_true, if_false, reduceIte, reduceCtorEq, Nat.reduceEqDiff, Nat.reduceAdd, Nat.reduceLT, ↓us_lFnExactCheckRepair, r_lFnExactCheckRepair]
  have h18 := h17.ext hx8
  have h28 := h27.ext hx8
  have hx18 := hx17.trans hx8
  refine m_al ?_
  rintro b9 w9 hb9 hblk9 hx9 hs9
  have h19 := h18.ext hx9
  have h29 := h28.ext hx9
  simp only [↓vsd, vsn, gW, qd, qv, ev, pick, argE, zipE, ne_eq, eq_self, forall_const, implies_true, if_true, if_false, reduceIte, reduceCtorEq, Nat.reduceEqDiff, Nat.reduceAdd, Nat.reduceLT, ↓us_lFnExactCheckRepair, r_lFnExactCheckRepair, h19.facts, h29.facts, fMg, fQg]
  refine m_st hblk9 rfl (Nat.le_refl 3) (fM_one nm st x8 ho8.sq.one') ?_
  rintro w10 hblk10 hu10
  have hb10 : Blk w10 b9 (fM nm st x8) 31 := hblk10
  have hx19 := hx18.trans hx9
  have hx110 : Ext w w10 := hu10.below hx19 (by have := hx18.size; omega)
  have ho10 := (ho8.ext hx9).upd hu10 (ho8.away (by omega))
  have h110 := hu10.blk h19 (by have := h18.lt; omega)
  have h210 := hu10.blk h29 (by have := h28.lt; omega)
  simp only [↓vsd, vsn, gW, qd, qv, ev, pick, argE, zipE, ne_eq, eq_self, forall_const, implies_true, if_true, if_false, reduceIte, reduceCtorEq, Nat.reduceEqDiff, Nat.reduceAdd, Nat.reduceLT, ↓us_lFnExactCheckRepair, r_lFnExactCheckRepair, h110.facts, h210.facts, hb10.facts, fMg, fQg]
  refine m_call (ltoStringSS_ok o ls hls _ (by first | exact h'.ext hx110 | exact h'.ext (dr hx110))) ?_
  rintro y10 w11 hx11 hk11
  have hx11 : Ext w10 w11 := by first | exact hx11 | exact ud hx11 | exact ud (ud hx11)
  have h111 := h110.ext hx11
  have h211 := h210.ext hx11
  have hb11 := hb10.ext hx11
  have hx111 := hx110.trans hx11
  simp only [↓vsd, vsn, gW, qd, qv, ev, pick, argE, zipE, ne_eq, eq_self, forall_const, implies_true, if_true, if_false, reduceIte, reduceCtorEq, Nat.reduceEqDiff, Nat.reduceAdd, Nat.reduceLT, ↓us_lFnExactCheckRepair, r_lFnExactCheckRepair, h111.facts, h211.facts, hb11.facts, fMg, fQg]
  refine m_call (ltoCalls_ok b s _) ?_
  rintro _ w12 hxL rfl
  have hxL : Ext w11 w12 := by first | exact hxL | exact ud hxL | exact ud (ud hxL)
  have h112 := h111.ext hxL
  have h212 := h211.ext hxL
  have hb12 := hb11.ext hxL
  have hx112 := hx111.trans hxL
  have ho12 := (ho10.ext hx11).ext hxL
  have hk12 := hk11.ext hxL
  simp only [↓vsd, vsn, gW, qd, qv, ev, pick, argE, zipE, ne_eq, eq_self, forall_const, implies_true, if_true, if_false, reduceIte, reduceCtorEq, Nat.reduceEqDiff, Nat.reduceAdd, Nat.reduceLT, ↓us_lFnExactCheckRepair, r_lFnExactCheckRepair, h112.facts, h212.facts, hb12.facts, fMg, fQg]
  refine m_call (iCheckRepair_ok nm st x8 y10 cs b s f t T ls hnm hs (by omega) hb (by omega) hls _ ho12.sq hk12) ?_
  rintro _ w13 hxn rfl
  have hxn : Ext w12 w13 := by first | exact hxn | exact ud hxn | exact ud (ud hxn)
  rw [hR]
  have h113 := h112.ext hxn
  have hb13 := hb12.ext hxn
  have hx113 := hx112.trans hxn
  simp only [↓vsd, vsn, gW, qd, qv, ev, pick, argE, zipE, ne_eq, eq_self, forall_const, implies_true, if_true, if_false, reduceIte, reduceCtorEq, Nat.reduceEqDiff, Nat.reduceAdd, Nat.reduceLT, ↓us_lFnExactCheckRepair, r_lFnExactCheckRepair, h113.facts, hb13.facts, fMg]
  refine m_call (ltoMethod_ok nm st v cs hl _ (by first | exact h.ext hx113 | exact h.ext (dr hx113))) ?_
  rintro _ w15 hxo ⟨x15, rfl, ho15⟩
  have hxo : Ext w13 w15 := by first | exact hxo | exact ud hxo | exact ud (ud hxo)
  have hb15 := hb13.ext hxo
  have hx115 := hx113.trans hxo
  simp only [↓vsd, vsn, gW, qd, qv, ev, pick, argE, zipE, ne_eq, eq_self, forall_const, implies_true, if_true, if_false, reduceIte, reduceCtorEq, Nat.reduceEqDiff, Nat.reduceAdd, Nat.reduceLT, ↓us_lFnExactCheckRepair, r_lFnExactCheckRepair, hb15.facts, fMg]
  refine m_call (leqMethod_ok nm nm st st x8 x15 cs cs (by omega) _ ((ho12.ext hxn).ext hxo).sq ho15.sq) ?_
  rintro _ w16 hxp rfl
  have hxp : Ext w15 w16 := by first | exact hxp | exact ud hxp | exact ud (ud hxp)
  have hx116 := hx115.trans hxp
  simp only [↓vsd, vsn, gW, qd, qv, ev, pick, argE, zipE, ne_eq, eq_self, forall_const, implies_true, if_true, if_false, reduceIte, reduceCtorEq, Nat.reduceEqDiff, Nat.reduceAdd, Nat.reduceLT, ↓us_lFnExactCheckRepair, r_lFnExactCheckRepair]
  refine m_call (ltoStringSS_ok o ls hls _ (by first | exact h'.ext hx116 | exact h'.ext (dr hx116))) ?_
  rintro y17 w17 hxq hk17
  have hxq : Ext w16 w17 := by first | exact hxq | exact ud hxq | exact ud (ud hxq)
  simp only [↓vsd, vsn, gW, qd, qv, ev, pick, argE, zipE, ne_eq, eq_self, forall_const, implies_true, if_true, if_false, reduceIte, reduceCtorEq, Nat.reduceEqDiff, Nat.reduceAdd, Nat.reduceLT, ↓us_lFnExactCheckRepair, r_lFnExactCheckRepair]
  refine m_call (leqStringSS_big y10 y17 ls ls _ ((((hk12.ext hxn).ext hxo).ext hxp).ext hxq) hk17 (by omega) (fun x hx => by have := hls.2 x hx; omega)) ?_
  rintro _ w18 hxr rfl
  have hxr : Ext w17 w18 := by first | exact hxr | exact ud hxr | exact ud (ud hxr)
  simp only [↓vsd, vsn, gW, qd, qv, ev, pick, argE, zipE, ne_eq, eq_self, forall_const, implies_true, if_true, if_false, reduceIte, reduceCtorEq, Nat.reduceEqDiff, Nat.reduceAdd, Nat.reduceLT, ↓us_lFnExactCheckRepair, r_lFnExactCheckRepair]
  exact (hx116.trans hxq).trans hxr
end Go.Proofs.Ytnhealghpfjdcaa
