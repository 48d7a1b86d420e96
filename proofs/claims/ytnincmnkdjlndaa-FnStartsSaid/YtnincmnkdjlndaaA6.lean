/-
  Lists of texts: the laws' helpers (size, copy, comparison, marks) and lists of rows.
  Conditions: none.
-/
import Derived.Test.YtnincmnkdjlndaaA1
set_option linter.unusedSimpArgs false
set_option linter.unusedVariables false
set_option linter.defProp false
namespace Go.Proofs.Ytnincmnkdjlndaa
open Go Go.RowKit
section
variable (P : Program) (k : KT) (e : Env) (w : World)
abbrev b292_1 : X := (.cond (.t 11) (.seq (.reg [4] (.c (.q 4 [] (.mv (.c (.int .i64 (-1))))) .nil)) .ret) .skip)
def t292_1 := b292_1
theorem u292_1 : vcK P t292_1 k e w = vcK P b292_1 k e w := rfl
abbrev b292_2 : X := (.cond (.t 15) .skip (.exit 0))
def t292_2 := b292_2
theorem u292_2 : vcK P t292_2 k e w = vcK P b292_2 k e w := rfl
abbrev b292_3 : X := (.cond (.t 26) (.seq (.reg [4] (.c (.q 4 [] (.mv (.c (.int .i64 (-1))))) .nil)) .ret) .skip)
def t292_3 := b292_3
theorem u292_3 : vcK P t292_3 k e w = vcK P b292_3 k e w := rfl
abbrev b292_4 : X := (.seq (.reg [0, 1, 5, 26] (.c (.q 25 [] (.mv (.t 1))) (.c (.q 26 [] (.bin .lss (.t 25) (.c (.int .i64 0)))) .nil))) t292_3)
def t292_4 := b292_4
theorem u292_4 : vcK P t292_4 k e w = vcK P b292_4 k e w := rfl
abbrev b292_5 : X := (.reg [0, 1, 5] (.c (.q 16 [] (.mv (.t 5))) (.c (.q 17 [] (.bin .add (.t 16) (.c (.int .i64 1)))) (.c (.q 5 [] (.mv (.t 17))) .nil))))
def t292_5 := b292_5
theorem u292_5 : vcK P t292_5 k e w = vcK P b292_5 k e w := rfl
abbrev b292_6 : X := (.seq (.blk 1 (.seq (.reg [0, 1, 5] (.c (.q 18 [] (.mv (.t 1))) (.c (.q 19 [] (.mv (.t 0))) (.c (.q 20 [] (.mv (.t 5))) (.c (.q 21 [] (.ia 1 (.t 19) (.t 20))) (.c (.q 22 [] (.ld (.t 21))) (.c (.q 23 [] (.len (.t 22))) (.c (.q 24 [] (.bin .sub (.t 18) (.t 23))) (.c (.q 1 [] (.mv (.t 24))) .nil))))))))) t292_4)) t292_5)
def t292_6 := b292_6
theorem u292_6 : vcK P t292_6 k e w = vcK P b292_6 k e w := rfl
abbrev b292_7 : X := (.seq (.seq (.reg [0, 1, 5, 15] (.c (.q 12 [] (.mv (.t 5))) (.c (.q 13 [] (.mv (.t 0))) (.c (.q 14 [] (.lens (.t 13))) (.c (.q 15 [] (.bin .lss (.t 12) (.t 14))) .nil))))) t292_2) t292_6)
def t292_7 := b292_7
theorem u292_7 : vcK P t292_7 k e w = vcK P b292_7 k e w := rfl
abbrev b292_8 : X := (.blk 0 (.loop [1, 5] [0] t292_7))
def t292_8 := b292_8
theorem u292_8 : vcK P t292_8 k e w = vcK P b292_8 k e w := rfl
abbrev b292_9 : X := (.seq (.reg [4] (.c (.q 27 [] (.mv (.t 1))) (.c (.q 4 [] (.mv (.t 27))) .nil))) .ret)
def t292_9 := b292_9
theorem u292_9 : vcK P t292_9 k e w = vcK P b292_9 k e w := rfl
abbrev b292_10 : X := (.seq (.seq (.reg [0, 1, 5] (.c (.q 5 [] (.mv (.c (.int .i64 0)))) .nil)) t292_8) t292_9)
def t292_10 := b292_10
theorem u292_10 : vcK P t292_10 k e w = vcK P b292_10 k e w := rfl
abbrev b292_11 : X := (.seq (.seq (.reg [0, 1, 11] (.c (.q 10 [] (.mv (.t 1))) (.c (.q 11 [] (.bin .lss (.t 10) (.c (.int .i64 0)))) .nil))) t292_1) t292_10)
def t292_11 := b292_11
theorem u292_11 : vcK P t292_11 k e w = vcK P b292_11 k e w := rfl
abbrev b292_12 : X := (.seq (.reg [0, 1] (.c (.q 6 [] (.mv (.t 1))) (.c (.q 7 [] (.mv (.t 0))) (.c (.q 8 [] (.lens (.t 7))) (.c (.q 9 [] (.bin .sub (.t 6) (.t 8))) (.c (.q 1 [] (.mv (.t 9))) .nil)))))) t292_11)
def t292_12 := b292_12
theorem u292_12 : vcK P t292_12 k e w = vcK P b292_12 k e w := rfl
abbrev b292_0 : X := (.seq (.reg [0, 1] (.c (.q 4 [] (.mv (.c (.int .i64 0)))) .nil)) t292_12)
def x_lszStringS := b292_0
theorem u292_0 : vcK P x_lszStringS k e w = vcK P b292_0 k e w := rfl
def r_lszStringS : List XO := [(.mv (.t 4))]
theorem c_lszStringS : convF Try.prog [147, 148, 152, 160, 162, 163, 170, 178, 206, 208, 210, 224, 233, 235, 236, 251, 264, 265, 268, 270, 287, 322] Try.f292 [([0, 1], []), ([0, 1], []), ([0, 1, 11], []), ([4], []), ([0, 1, 5], []), ([1, 5], [0]), ([0, 1, 5, 15], []), ([0, 1, 5], []), ([0, 1, 5, 26], []), ([4], []), ([0, 1, 5], []), ([4], [])] = some (x_lszStringS, r_lszStringS) := by kernel_rfl
def us_lszStringS :=  (aI (aI (aI @u292_0 (aI @u292_1 @u292_2)) (aI @u292_3 (aI @u292_4 @u292_5))) (aI (aI @u292_6 (aI @u292_7 @u292_8)) (aI (aI @u292_9 @u292_10) (aI @u292_11 @u292_12))))
abbrev b297_1 : X := (.cond (.t 11) .skip (.exit 0))
def t297_1 := b297_1
theorem u297_1 : vcK P t297_1 k e w = vcK P b297_1 k e w := rfl
abbrev b297_2 : X := (.reg [0, 3, 4] (.c (.q 12 [] (.mv (.t 4))) (.c (.q 13 [] (.bin .add (.t 12) (.c (.int .i64 1)))) (.c (.q 4 [] (.mv (.t 13))) .nil))))
def t297_2 := b297_2
theorem u297_2 : vcK P t297_2 k e w = vcK P b297_2 k e w := rfl
abbrev b297_3 : X := (.seq (.blk 1 (.reg [0, 3, 4] (.c (.q 14 [] (.mv (.t 3))) (.c (.q 15 [] (.mv (.t 4))) (.c (.q 16 [] (.mv (.t 0))) (.c (.q 17 [] (.mv (.t 4))) (.c (.q 18 [] (.ia 1 (.t 16) (.t 17))) (.c (.q 19 [] (.ld (.t 18))) (.c (.q 20 [] (.ia 1 (.t 14) (.t 15))) (.c (.e none [] (.st 1 (.t 20) (.t 19))) .nil)))))))))) t297_2)
def t297_3 := b297_3
theorem u297_3 : vcK P t297_3 k e w = vcK P b297_3 k e w := rfl
abbrev b297_4 : X := (.seq (.seq (.reg [0, 3, 4, 11] (.c (.q 8 [] (.mv (.t 4))) (.c (.q 9 [] (.mv (.t 0))) (.c (.q 10 [] (.lens (.t 9))) (.c (.q 11 [] (.bin .lss (.t 8) (.t 10))) .nil))))) t297_1) t297_3)
def t297_4 := b297_4
theorem u297_4 : vcK P t297_4 k e w = vcK P b297_4 k e w := rfl
abbrev b297_5 : X := (.blk 0 (.loop [4] [0, 3] t297_4))
def t297_5 := b297_5
theorem u297_5 : vcK P t297_5 k e w = vcK P b297_5 k e w := rfl
abbrev b297_6 : X := (.seq (.reg [2] (.c (.q 21 [] (.mv (.t 3))) (.c (.q 2 [] (.mv (.t 21))) .nil))) .ret)
def t297_6 := b297_6
theorem u297_6 : vcK P t297_6 k e w = vcK P b297_6 k e w := rfl
abbrev b297_7 : X := (.seq (.seq (.reg [0, 3, 4] (.c (.q 4 [] (.mv (.c (.int .i64 0)))) .nil)) t297_5) t297_6)
def t297_7 := b297_7
theorem u297_7 : vcK P t297_7 k e w = vcK P b297_7 k e w := rfl
abbrev b297_8 : X := (.seq (.reg [0, 3] (.c (.q 5 [] (.mv (.t 0))) (.c (.q 6 [] (.lens (.t 5))) (.c (.e (some 7) [] (.msl 24 9 1 16 [(S [])] (.t 6) (.t 6))) (.c (.q 3 [] (.mv (.t 7))) .nil))))) t297_7)
def t297_8 := b297_8
theorem u297_8 : vcK P t297_8 k e w = vcK P b297_8 k e w := rfl
abbrev b297_0 : X := (.seq (.reg [0] (.c (.q 2 [] (.mv (.c (.slice none 0 0)))) .nil)) t297_8)
def x_ltoStringS := b297_0
theorem u297_0 : vcK P x_ltoStringS k e w = vcK P b297_0 k e w := rfl
def r_ltoStringS : List XO := [(.mv (.t 2))]
theorem c_ltoStringS : convF Try.prog [147, 148, 152, 160, 162, 163, 170, 178, 206, 208, 210, 224, 233, 235, 236, 251, 264, 265, 268, 270, 287, 322] Try.f297 [([0], []), ([0, 3], []), ([0, 3, 4], []), ([4], [0, 3]), ([0, 3, 4, 11], []), ([0, 3, 4], []), ([0, 3, 4], []), ([2], [])] = some (x_ltoStringS, r_ltoStringS) := by kernel_rfl
def us_ltoStringS :=  (aI (aI (aI @u297_0 @u297_1) (aI @u297_2 @u297_3)) (aI (aI @u297_4 @u297_5) (aI @u297_6 (aI @u297_7 @u297_8))))
abbrev b301_1 : X := (.cond (.t 10) (.seq (.reg [4] (.c (.q 4 [] (.mv (.c (.bool false)))) .nil)) .ret) .skip)
def t301_1 := b301_1
theorem u301_1 : vcK P t301_1 k e w = vcK P b301_1 k e w := rfl
abbrev b301_2 : X := (.cond (.t 14) .skip (.exit 0))
def t301_2 := b301_2
theorem u301_2 : vcK P t301_2 k e w = vcK P b301_2 k e w := rfl
abbrev b301_3 : X := (.cond (.t 25) (.seq (.reg [4] (.c (.q 4 [] (.mv (.c (.bool false)))) .nil)) .ret) .skip)
def t301_3 := b301_3
theorem u301_3 : vcK P t301_3 k e w = vcK P b301_3 k e w := rfl
abbrev b301_4 : X := (.reg [0, 1, 5] (.c (.q 15 [] (.mv (.t 5))) (.c (.q 16 [] (.bin .add (.t 15) (.c (.int .i64 1)))) (.c (.q 5 [] (.mv (.t 16))) .nil))))
def t301_4 := b301_4
theorem u301_4 : vcK P t301_4 k e w = vcK P b301_4 k e w := rfl
abbrev b301_5 : X := (.seq (.blk 1 (.seq (.drw [0, 1, 5, 25] (.c (.q 17 [] (.mv (.t 0))) (.c (.q 18 [] (.mv (.t 5))) (.c (.q 19 [] (.ia 1 (.t 17) (.t 18))) (.c (.q 20 [] (.ld (.t 19))) (.c (.q 21 [] (.mv (.t 1))) (.c (.q 22 [] (.mv (.t 5))) (.c (.q 23 [] (.ia 1 (.t 21) (.t 22))) (.c (.q 24 [] (.ld (.t 23))) (.c (.q 25 [] (.bin .neq (.t 20) (.t 24))) .nil)))))))))) t301_3)) t301_4)
def t301_5 := b301_5
theorem u301_5 : vcK P t301_5 k e w = vcK P b301_5 k e w := rfl
abbrev b301_6 : X := (.seq (.seq (.reg [0, 1, 5, 14] (.c (.q 11 [] (.mv (.t 5))) (.c (.q 12 [] (.mv (.t 0))) (.c (.q 13 [] (.lens (.t 12))) (.c (.q 14 [] (.bin .lss (.t 11) (.t 13))) .nil))))) t301_2) t301_5)
def t301_6 := b301_6
theorem u301_6 : vcK P t301_6 k e w = vcK P b301_6 k e w := rfl
abbrev b301_7 : X := (.blk 0 (.loop [5] [0, 1] t301_6))
def t301_7 := b301_7
theorem u301_7 : vcK P t301_7 k e w = vcK P b301_7 k e w := rfl
abbrev b301_8 : X := (.seq (.reg [4] (.c (.q 4 [] (.mv (.c (.bool true)))) .nil)) .ret)
def t301_8 := b301_8
theorem u301_8 : vcK P t301_8 k e w = vcK P b301_8 k e w := rfl
abbrev b301_9 : X := (.seq (.seq (.reg [0, 1, 5] (.c (.q 5 [] (.mv (.c (.int .i64 0)))) .nil)) t301_7) t301_8)
def t301_9 := b301_9
theorem u301_9 : vcK P t301_9 k e w = vcK P b301_9 k e w := rfl
abbrev b301_10 : X := (.seq (.seq (.reg [0, 1, 10] (.c (.q 6 [] (.mv (.t 0))) (.c (.q 7 [] (.lens (.t 6))) (.c (.q 8 [] (.mv (.t 1))) (.c (.q 9 [] (.lens (.t 8))) (.c (.q 10 [] (.bin .neq (.t 7) (.t 9))) .nil)))))) t301_1) t301_9)
def t301_10 := b301_10
theorem u301_10 : vcK P t301_10 k e w = vcK P b301_10 k e w := rfl
abbrev b301_0 : X := (.seq (.reg [0, 1] (.c (.q 4 [] (.mv (.c (.bool false)))) .nil)) t301_10)
def x_leqStringS := b301_0
theorem u301_0 : vcK P x_leqStringS k e w = vcK P b301_0 k e w := rfl
def r_leqStringS : List XO := [(.mv (.t 4))]
theorem c_leqStringS : convF Try.prog [147, 148, 152, 160, 162, 163, 170, 178, 206, 208, 210, 224, 233, 235, 236, 251, 264, 265, 268, 270, 287, 322] Try.f301 [([0, 1], []), ([0, 1, 10], []), ([4], []), ([0, 1, 5], []), ([5], [0, 1]), ([0, 1, 5, 14], []), ([0, 1, 5, 25], []), ([4], []), ([0, 1, 5], []), ([4], [])] = some (x_leqStringS, r_leqStringS) := by kernel_rfl
def us_leqStringS :=  (aI (aI (aI @u301_0 @u301_1) (aI @u301_2 (aI @u301_3 @u301_4))) (aI (aI @u301_5 (aI @u301_6 @u301_7)) (aI @u301_8 (aI @u301_9 @u301_10))))
abbrev b172_1 : X := (.cond (.t 22) (.seq (.reg [2] (.c (.q 2 [] (.mv (.c (.bool false)))) .nil)) .ret) .skip)
def t172_1 := b172_1
theorem u172_1 : vcK P t172_1 k e w = vcK P b172_1 k e w := rfl
abbrev b172_2 : X := (.seq (.reg [0, 5, 6, 7, 22] (.c (.q 11 [] (.mv (.t 4))) (.c (.e (some 12) [] (.call false 151 [(.t 11)])) (.c (.q 13 [] (.not (.t 12))) (.c (.q 14 [] (.mv (.t 13))) (.c (.q 15 [(14, false)] (.mv (.t 4))) (.c (.q 16 [(14, false)] (.len (.t 15))) (.c (.q 17 [(14, false)] (.mv (.t 0))) (.c (.q 18 [(14, false)] (.ia 1 (.t 17) (.c (.int .i64 0)))) (.c (.q 19 [(14, false)] (.ld (.t 18))) (.c (.q 20 [(14, false)] (.len (.t 19))) (.c (.q 21 [(14, false)] (.bin .neq (.t 16) (.t 20))) (.c (.q 22 [] (.pick (.t 14) (.c (.bool true)) (.t 21))) .nil))))))))))))) t172_1)
def t172_2 := b172_2
theorem u172_2 : vcK P t172_2 k e w = vcK P b172_2 k e w := rfl
abbrev b172_3 : X := (.reg [0, 5, 6, 7] (.c (.q 23 [] (.bin .add (.t 7) (.c (.int .i64 1)))) (.c (.q 7 [] (.mv (.t 23))) .nil)))
def t172_3 := b172_3
theorem u172_3 : vcK P t172_3 k e w = vcK P b172_3 k e w := rfl
abbrev b172_4 : X := (.seq (.blk 1 (.seq (.reg [0, 4, 5, 6, 7] (.c (.q 9 [] (.ia 1 (.t 5) (.t 7))) (.c (.q 10 [] (.ld (.t 9))) (.c (.q 4 [] (.mv (.t 10))) .nil)))) t172_2)) t172_3)
def t172_4 := b172_4
theorem u172_4 : vcK P t172_4 k e w = vcK P b172_4 k e w := rfl
abbrev b172_5 : X := (.seq (.cond (.t 8) .skip (.exit 0)) t172_4)
def t172_5 := b172_5
theorem u172_5 : vcK P t172_5 k e w = vcK P b172_5 k e w := rfl
abbrev b172_6 : X := (.seq (.reg [0, 5, 6, 7, 8] (.c (.q 8 [] (.bin .lss (.t 7) (.t 6))) .nil)) t172_5)
def t172_6 := b172_6
theorem u172_6 : vcK P t172_6 k e w = vcK P b172_6 k e w := rfl
abbrev b172_7 : X := (.blk 0 (.loop [7] [0, 5, 6] t172_6))
def t172_7 := b172_7
theorem u172_7 : vcK P t172_7 k e w = vcK P b172_7 k e w := rfl
abbrev b172_8 : X := (.seq (.reg [2] (.c (.q 24 [] (.mv (.t 0))) (.c (.q 25 [] (.lens (.t 24))) (.c (.q 26 [] (.bin .leq (.t 25) (.c (.int .i64 800)))) (.c (.q 2 [] (.mv (.t 26))) .nil))))) .ret)
def t172_8 := b172_8
theorem u172_8 : vcK P t172_8 k e w = vcK P b172_8 k e w := rfl
abbrev b172_9 : X := (.seq (.seq (.reg [0, 5, 6, 7] (.c (.q 5 [] (.mv (.t 0))) (.c (.q 6 [] (.lens (.t 5))) (.c (.q 7 [] (.mv (.c (.int .i64 0)))) .nil)))) t172_7) t172_8)
def t172_9 := b172_9
theorem u172_9 : vcK P t172_9 k e w = vcK P b172_9 k e w := rfl
abbrev b172_0 : X := (.seq (.reg [0] (.c (.q 2 [] (.mv (.c (.bool false)))) .nil)) t172_9)
def x_sl6Rows := b172_0
theorem u172_0 : vcK P x_sl6Rows k e w = vcK P b172_0 k e w := rfl
def r_sl6Rows : List XO := [(.mv (.t 2))]
theorem c_sl6Rows : convF Try.prog [147, 148, 152, 160, 162, 163, 170, 178, 206, 208, 210, 224, 233, 235, 236, 251, 264, 265, 268, 270, 287, 322] Try.f172 [([0], []), ([0, 5, 6, 7], []), ([7], [0, 5, 6]), ([0, 5, 6, 7, 8], []), ([0, 4, 5, 6, 7], []), ([0, 5, 6, 7, 22], []), ([2], []), ([0, 5, 6, 7], []), ([2], [])] = some (x_sl6Rows, r_sl6Rows) := by kernel_rfl
def us_sl6Rows :=  (aI (aI (aI @u172_0 @u172_1) (aI @u172_2 (aI @u172_3 @u172_4))) (aI (aI @u172_5 @u172_6) (aI @u172_7 (aI @u172_8 @u172_9))))
abbrev b115_1 : X := (.cond (.t 7) (.seq (.reg [2] (.c (.q 2 [] (.mv (.c (.bool false)))) .nil)) .ret) .skip)
def t115_1 := b115_1
theorem u115_1 : vcK P t115_1 k e w = vcK P b115_1 k e w := rfl
abbrev b115_2 : X := (.cond (.t 20) (.seq (.reg [2] (.c (.q 2 [] (.mv (.c (.bool false)))) .nil)) .ret) .skip)
def t115_2 := b115_2
theorem u115_2 : vcK P t115_2 k e w = vcK P b115_2 k e w := rfl
abbrev b115_3 : X := (.seq (.reg [0, 8, 9, 10, 20] (.c (.q 14 [] (.mv (.t 0))) (.c (.q 15 [] (.ia 1 (.t 14) (.c (.int .i64 0)))) (.c (.q 16 [] (.ld (.t 15))) (.c (.q 17 [] (.len (.t 16))) (.c (.q 18 [] (.mv (.t 4))) (.c (.e (some 19) [] (.call false 143 [(.t 17), (.t 18)])) (.c (.q 20 [] (.not (.t 19))) .nil)))))))) t115_2)
def t115_3 := b115_3
theorem u115_3 : vcK P t115_3 k e w = vcK P b115_3 k e w := rfl
abbrev b115_4 : X := (.reg [0, 8, 9, 10] (.c (.q 21 [] (.bin .add (.t 10) (.c (.int .i64 1)))) (.c (.q 10 [] (.mv (.t 21))) .nil)))
def t115_4 := b115_4
theorem u115_4 : vcK P t115_4 k e w = vcK P b115_4 k e w := rfl
abbrev b115_5 : X := (.seq (.blk 1 (.seq (.reg [0, 4, 8, 9, 10] (.c (.q 12 [] (.ia 1 (.t 8) (.t 10))) (.c (.q 13 [] (.ld (.t 12))) (.c (.q 4 [] (.mv (.t 13))) .nil)))) t115_3)) t115_4)
def t115_5 := b115_5
theorem u115_5 : vcK P t115_5 k e w = vcK P b115_5 k e w := rfl
abbrev b115_6 : X := (.seq (.cond (.t 11) .skip (.exit 0)) t115_5)
def t115_6 := b115_6
theorem u115_6 : vcK P t115_6 k e w = vcK P b115_6 k e w := rfl
abbrev b115_7 : X := (.seq (.reg [0, 8, 9, 10, 11] (.c (.q 11 [] (.bin .lss (.t 10) (.t 9))) .nil)) t115_6)
def t115_7 := b115_7
theorem u115_7 : vcK P t115_7 k e w = vcK P b115_7 k e w := rfl
abbrev b115_8 : X := (.blk 0 (.loop [10] [0, 8, 9] t115_7))
def t115_8 := b115_8
theorem u115_8 : vcK P t115_8 k e w = vcK P b115_8 k e w := rfl
abbrev b115_9 : X := (.seq (.reg [2] (.c (.q 2 [] (.mv (.c (.bool true)))) .nil)) .ret)
def t115_9 := b115_9
theorem u115_9 : vcK P t115_9 k e w = vcK P b115_9 k e w := rfl
abbrev b115_10 : X := (.seq (.seq (.reg [0, 8, 9, 10] (.c (.q 8 [] (.mv (.t 0))) (.c (.q 9 [] (.lens (.t 8))) (.c (.q 10 [] (.mv (.c (.int .i64 0)))) .nil)))) t115_8) t115_9)
def t115_10 := b115_10
theorem u115_10 : vcK P t115_10 k e w = vcK P b115_10 k e w := rfl
abbrev b115_11 : X := (.seq (.seq (.reg [0, 7] (.c (.q 5 [] (.mv (.t 0))) (.c (.q 6 [] (.lens (.t 5))) (.c (.q 7 [] (.bin .gtr (.t 6) (.c (.int .i64 800)))) .nil)))) t115_1) t115_10)
def t115_11 := b115_11
theorem u115_11 : vcK P t115_11 k e w = vcK P b115_11 k e w := rfl
abbrev b115_0 : X := (.seq (.reg [0] (.c (.q 2 [] (.mv (.c (.bool false)))) .nil)) t115_11)
def x_iGoodRows := b115_0
theorem u115_0 : vcK P x_iGoodRows k e w = vcK P b115_0 k e w := rfl
def r_iGoodRows : List XO := [(.mv (.t 2))]
theorem c_iGoodRows : convF Try.prog [147, 148, 152, 160, 162, 163, 170, 178, 206, 208, 210, 224, 233, 235, 236, 251, 264, 265, 268, 270, 287, 322] Try.f115 [([0], []), ([0, 7], []), ([2], []), ([0, 8, 9, 10], []), ([10], [0, 8, 9]), ([0, 8, 9, 10, 11], []), ([0, 4, 8, 9, 10], []), ([0, 8, 9, 10, 20], []), ([2], []), ([0, 8, 9, 10], []), ([2], [])] = some (x_iGoodRows, r_iGoodRows) := by kernel_rfl
def us_iGoodRows :=  (aI (aI (aI @u115_0 (aI @u115_1 @u115_2)) (aI @u115_3 (aI @u115_4 @u115_5))) (aI (aI @u115_6 (aI @u115_7 @u115_8)) (aI @u115_9 (aI @u115_10 @u115_11))))
abbrev b143_1 : X := (.seq (.reg [4] (.c (.q 5 [] (.mv (.t 1))) (.c (.q 6 [] (.len (.t 5))) (.c (.q 7 [] (.mv (.t 0))) (.c (.q 8 [] (.bin .eql (.t 6) (.t 7))) (.c (.q 9 [] (.mv (.t 8))) (.c (.q 10 [(9, true)] (.mv (.t 1))) (.c (.e (some 11) [(9, true)] (.call false 141 [(.t 10)])) (.c (.q 12 [] (.pick (.t 9) (.t 11) (.c (.bool false)))) (.c (.q 4 [] (.mv (.t 12))) .nil)))))))))) .ret)
def t143_1 := b143_1
theorem u143_1 : vcK P t143_1 k e w = vcK P b143_1 k e w := rfl
abbrev b143_0 : X := (.seq (.reg [0, 1] (.c (.q 4 [] (.mv (.c (.bool false)))) .nil)) t143_1)
def x_iisRowOf := b143_0
theorem u143_0 : vcK P x_iisRowOf k e w = vcK P b143_0 k e w := rfl
def r_iisRowOf : List XO := [(.mv (.t 4))]
theorem c_iisRowOf : convF Try.prog [147, 148, 152, 160, 162, 163, 170, 178, 206, 208, 210, 224, 233, 235, 236, 251, 264, 265, 268, 270, 287, 322] Try.f143 [([0, 1], []), ([4], [])] = some (x_iisRowOf, r_iisRowOf) := by kernel_rfl
def us_iisRowOf :=  (aI @u143_0 @u143_1)
end

theorem getD_mem {α : Type} {l : List α} {k : Nat} (d : α) (h : k < l.length) : l.getD k d ∈ l := by rw [List.getD_eq_getElem?_getD, List.getElem?_eq_getElem h]; exact List.getElem_mem h
theorem mem_take {α : Type} {l : List α} {k : Nat} {d x : α} (h : k < l.length) (hx : x ∈ l.take (k + 1)) : x ∈ l.take k ∨ x = l.getD k d := by
  rw [List.take_add_one, List.getElem?_eq_getElem h] at hx
  rcases List.mem_append.1 hx with h' | h'
  · exact .inl h'
  · rw [List.getD_eq_getElem?_getD, List.getElem?_eq_getElem h]
    exact .inr (by simpa using h')
theorem fill_set {α : Type} (l : List α) (d : α) (k : Nat) (h : k < l.length) : (l.take k ++ List.replicate (l.length - k) d).set k (l.getD k d) = l.take (k + 1) ++ List.replicate (l.length - (k + 1)) d := by
  rw [List.set_append_right _ _ (by simp; omega), List.length_take, Nat.min_eq_left (by omega), Nat.sub_self, show l.length - k = (l.length - (k + 1)) + 1 by omega, List.replicate_succ, List.set_cons_zero, List.take_add_one, List.getElem?_eq_getElem h, List.getD_eq_getElem?_getD, List.getElem?_eq_getElem h]
  simp only [Option.toList_some, Option.getD_some, List.append_assoc, List.cons_append, List.nil_append]
theorem ne_at {α : Type} {l l' : List α} {d : α} (k : Nat) (h : ¬ l.getD k d = l'.getD k d) : ¬ l = l' := fun e => h (by rw [e])
theorem eq_take {α : Type} {l l' : List α} {d : α} {k : Nat} (h : l.take k = l'.take k) (h1 : k < l.length) (h2 : k < l'.length) (e : l.getD k d = l'.getD k d) : l.take (k + 1) = l'.take (k + 1) := by
  rw [List.getD_eq_getElem?_getD, List.getD_eq_getElem?_getD, List.getElem?_eq_getElem h1, List.getElem?_eq_getElem h2, Option.getD_some, Option.getD_some] at e
  rw [List.take_add_one, List.take_add_one, h, List.getElem?_eq_getElem h1, List.getElem?_eq_getElem h2, e]
theorem eq_len {α : Type} {l l' : List α} (h : l.take l.length = l'.take l.length) (e : l.length = l'.length) : l = l' := by
  rw [List.take_length, e, List.take_length] at h; exact h

theorem lszStringS_ok (v : Value) (l : List (List UInt8)) (n : Int) (hn : 0 ≤ n ∧ n ≤ 1048576) (hl : l.length ≤ 9223372036854775807) (hs : ∀ x ∈ l, x.length ≤ 9223372036854775807) (w : World) (h : Sq fS 1 w v l) :
    Fn 292 [v, .int .i64 n] w (fun v _ => ∃ m : Int, v = .int .i64 m ∧ m ≤ 1048576 ∧ (0 ≤ m → l.length ≤ 1048576 ∧ ∀ x ∈ l, x.length ≤ 1048576)) := by
  (refine callsV_of mix Try.func292 c_lszStringS ?_; simp only [↓vsd, vsn, gW, qd, qv, ev, pick, argE, zipE, ne_eq, eq_self, forall_const, implies_true, if_true, if_false, reduceIte, reduceCtorEq, Nat.reduceEqDiff, Nat.reduceAdd, Nat.reduceLT, ↓us_lszStringS, r_lszStringS])
  simp only [↓vsd, vsn, gW, qd, qv, ev, pick, argE, zipE, ne_eq, eq_self, forall_const, implies_true, if_true, if_false, reduceIte, reduceCtorEq, Nat.reduceEqDiff, Nat.reduceAdd, Nat.reduceLT, ↓us_lszStringS, r_lszStringS, h.facts]
  refine ⟨inR_i64 (by omega), fun hlt => ⟨Ext.refl _, -1, rfl, by omega, fun h => by omega⟩, fun hge => ?_⟩
  refine m_upto l.length (fun k vs w' => ∃ m : Int, vs = [.int .i64 m, .int .i64 k] ∧ 0 ≤ m ∧ m ≤ 1048576 ∧ (∀ x ∈ l.take k, x.length ≤ 1048576) ∧ Ext w w') ⟨_, rfl, by omega, by omega, by simp, Ext.refl _⟩ ?_
  rintro k vs w1 hk ⟨m, rfl, h0, h1, hall, hx⟩
  have hq := h.ext hx
  by_cases hlt : k < l.length
  · have hltI : (k : Int) < l.length := by omega
    have hltJ : ¬ (l.length : Int) ≤ k := by omega
    have := hs _ (getD_mem [] hlt)
    simp only [↓vsd, vsn, gW, qd, qv, ev, pick, argE, zipE, ne_eq, eq_self, forall_const, implies_true, if_true, if_false, reduceIte, reduceCtorEq, Nat.reduceEqDiff, Nat.reduceAdd, Nat.reduceLT, ↓us_lszStringS, r_lszStringS, hq.facts, hq.at1 [] hlt, hltI, hltJ]
    refine ⟨by omega, inR_i64 (by omega), fun _ => ⟨hx, -1, rfl, by omega, fun h => by omega⟩, fun hge2 => ⟨inR_i64 (by omega), UpTo.next hlt ⟨_, rfl, by omega, by omega, fun x hx' => ?_, hx⟩⟩⟩
    rcases mem_take (d := []) hlt hx' with h | rfl
    · exact hall x h
    · omega
  · obtain rfl : k = l.length := by omega
    have hltI : ¬ (l.length : Int) < l.length := by omega
    simp only [↓vsd, vsn, gW, qd, qv, ev, pick, argE, zipE, ne_eq, eq_self, forall_const, implies_true, if_true, if_false, reduceIte, reduceCtorEq, Nat.reduceEqDiff, Nat.reduceAdd, Nat.reduceLT, ↓us_lszStringS, r_lszStringS, hq.facts, hltI]
    exact ⟨hx, m, rfl, h1, fun _ => ⟨by omega, by simpa using hall⟩⟩
theorem ltoStringS_ok (v : Value) (l : List (List UInt8)) (hl : l.length ≤ 1048576) (w : World) (h : Sq fS 1 w v l) : Fn 297 [v] w (fun v' w' => Own fS 1 9 w.heap.size w' v' l) := by
  (refine callsV_of mix Try.func297 c_ltoStringS ?_; simp only [↓vsd, vsn, gW, qd, qv, ev, pick, argE, zipE, ne_eq, eq_self, forall_const, implies_true, if_true, if_false, reduceIte, reduceCtorEq, Nat.reduceEqDiff, Nat.reduceAdd, Nat.reduceLT, ↓us_ltoStringS, r_ltoStringS])
  simp only [↓vsd, vsn, gW, qd, qv, ev, pick, argE, zipE, ne_eq, eq_self, forall_const, implies_true, if_true, if_false, reduceIte, reduceCtorEq, Nat.reduceEqDiff, Nat.reduceAdd, Nat.reduceLT, ↓us_ltoStringS, r_ltoStringS, h.facts]
  refine m_msl (f := fS) (B := w.heap.size) [] fS_len rfl (by omega) (by decide) (Nat.le_refl _) ?_
  rintro vo w1 ho1 _ hx1
  simp only [↓vsd, vsn, gW, qd, qv, ev, pick, argE, zipE, ne_eq, eq_self, forall_const, implies_true, if_true, if_false, reduceIte, reduceCtorEq, Nat.reduceEqDiff, Nat.reduceAdd, Nat.reduceLT, ↓us_ltoStringS, r_ltoStringS]
  refine m_upto l.length (fun k vs w' => vs = [.int .i64 k] ∧ Own fS 1 9 w.heap.size w' vo (l.take k ++ List.replicate (l.length - k) []) ∧ Ext w w') ⟨rfl, by simpa using ho1, hx1⟩ ?_
  rintro k vs w2 hk ⟨rfl, ho2, hx2⟩
  have hq := h.ext hx2
  by_cases hlt : k < l.length
  · have hltI : (k : Int) < l.length := by omega
    have hltJ : ¬ (l.length : Int) ≤ k := by omega
    have hlen : (l.take k ++ List.replicate (l.length - k) ([] : List UInt8)).length = l.length := by simp; omega
    simp only [↓vsd, vsn, gW, qd, qv, ev, pick, argE, zipE, ne_eq, eq_self, forall_const, implies_true, if_true, if_false, reduceIte, reduceCtorEq, Nat.reduceEqDiff, Nat.reduceAdd, Nat.reduceLT, ↓us_ltoStringS, r_ltoStringS, hq.facts, hq.at1 [] hlt, hltI, hltJ, ho2.sq.facts, hlen]
    refine ⟨by omega, by omega, m_set1 k (l.getD k []) ho2 rfl (by omega) rfl fS_one ?_⟩
    rintro w4 ho4 hg4 _
    simp only [↓vsd, vsn, gW, qd, qv, ev, pick, argE, zipE, ne_eq, eq_self, forall_const, implies_true, if_true, if_false, reduceIte, reduceCtorEq, Nat.reduceEqDiff, Nat.reduceAdd, Nat.reduceLT, ↓us_ltoStringS, r_ltoStringS]
    refine ⟨inR_i64 (by omega), UpTo.next hlt ⟨rfl, ho4.to (fill_set l [] k hlt), ho2.grown hx2 (Nat.le_refl _) hg4⟩⟩
  · obtain rfl : k = l.length := by omega
    have hltI : ¬ (l.length : Int) < l.length := by omega
    simp only [↓vsd, vsn, gW, qd, qv, ev, pick, argE, zipE, ne_eq, eq_self, forall_const, implies_true, if_true, if_false, reduceIte, reduceCtorEq, Nat.reduceEqDiff, Nat.reduceAdd, Nat.reduceLT, ↓us_ltoStringS, r_ltoStringS, hq.facts, hltI]
    exact ⟨hx2, ho2.to (by simp)⟩
theorem leqStringS_ok (v1 v2 : Value) (l1 l2 : List (List UInt8)) (w : World) (h1 : Sq fS 1 w v1 l1) (h2 : Sq fS 1 w v2 l2) (hl : l1.length ≤ 1000000000) : Fn 301 [v1, v2] w (fun v _ => v = .bool (decide (l1 = l2))) := by
  (refine callsV_of mix Try.func301 c_leqStringS ?_; simp only [↓vsd, vsn, gW, qd, qv, ev, pick, argE, zipE, ne_eq, eq_self, forall_const, implies_true, if_true, if_false, reduceIte, reduceCtorEq, Nat.reduceEqDiff, Nat.reduceAdd, Nat.reduceLT, ↓us_leqStringS, r_leqStringS])
  simp only [↓vsd, vsn, gW, qd, qv, ev, pick, argE, zipE, ne_eq, eq_self, forall_const, implies_true, if_true, if_false, reduceIte, reduceCtorEq, Nat.reduceEqDiff, Nat.reduceAdd, Nat.reduceLT, ↓us_leqStringS, r_leqStringS, h1.facts, h2.facts]
  refine ⟨fun hne => ⟨Ext.refl _, ?_⟩, fun he => ?_⟩
  · have : ¬ l1 = l2 := fun e => hne (by rw [e])
    simp [this]
  refine m_upto l1.length (fun k vs w' => vs = [.int .i64 k] ∧ l1.take k = l2.take k ∧ Ext w w') ⟨rfl, rfl, Ext.refl _⟩ ?_
  rintro k vs w3 hk ⟨rfl, heq, hx⟩
  have g1 := h1.ext hx
  have g2 := h2.ext hx
  by_cases hlt : k < l1.length
  · have hlt2 : k < l2.length := by omega
    have hltI : (k : Int) < l1.length := by omega
    have hltJ : ¬ (l1.length : Int) ≤ k := by omega
    simp only [↓vsd, vsn, gW, qd, qv, ev, pick, argE, zipE, ne_eq, eq_self, forall_const, implies_true, if_true, if_false, reduceIte, reduceCtorEq, Nat.reduceEqDiff, Nat.reduceAdd, Nat.reduceLT, ↓us_leqStringS, r_leqStringS, g1.facts, g2.facts, g1.at1 [] hlt, g2.at1 [] hlt2, hltI, hltJ]
    exact ⟨by omega, by omega, fun hne => ⟨hx, by simp [ne_at k hne]⟩, fun he2 => ⟨inR_i64 (by omega), UpTo.next hlt ⟨rfl, eq_take heq hlt hlt2 he2, dr hx⟩⟩⟩
  · obtain rfl : k = l1.length := by omega
    have hltI : ¬ (l1.length : Int) < l1.length := by omega
    simp only [↓vsd, vsn, gW, qd, qv, ev, pick, argE, zipE, ne_eq, eq_self, forall_const, implies_true, if_true, if_false, reduceIte, reduceCtorEq, Nat.reduceEqDiff, Nat.reduceAdd, Nat.reduceLT, ↓us_leqStringS, r_leqStringS, g1.facts, hltI]
    exact ⟨hx, by simp [eq_len heq (by omega)]⟩
/-- The digits of a number above 0; none for 0. -/
def digs (k : Nat) : List UInt8 := if h : k = 0 then [] else digs (k / 10) ++ [UInt8.ofNat (48 + k % 10)]
termination_by k
decreasing_by omega
/-- A mark: the letter m and the number. -/
def markL (k : Nat) : List UInt8 := if k = 0 then [109, 48] else 109 :: digs k
theorem digs_step (k : Nat) (h : 0 < k) : digs k = digs (k / 10) ++ [UInt8.ofNat (48 + k % 10)] := by
  rw [digs, dif_neg (by omega)]
/-- n marks from k on. -/
def marksL (k n : Nat) : List (List UInt8) := (List.range n).map fun i => markL (k + i)
theorem marksL_len (k n : Nat) : (marksL k n).length = n := by simp [marksL]
theorem marksL_get (k n i : Nat) (h : i < n) : (marksL k n).getD i [] = markL (k + i) := by
  unfold marksL
  rw [List.getD_eq_getElem?_getD, List.getElem?_map, List.getElem?_range h]; rfl
theorem marksL_succ (k n : Nat) : marksL k (n + 1) = marksL k n ++ [markL (k + n)] := by simp [marksL, List.range_succ]
theorem grown_refl (w : World) (row : Option Nat) : w.grownBy w row := ⟨rfl, rfl, rfl, Nat.le_refl _, fun _ _ _ => rfl⟩
theorem grown_trans {a b c : World} {row : Option Nat} (h : a.grownBy b row) (k : b.grownBy c row) : a.grownBy c row :=
  ⟨k.os.trans h.os, k.tape.trans h.tape, k.output.trans h.output, Nat.le_trans h.size k.size, fun i hi hr => (k.block i (Nat.lt_of_lt_of_le hi h.size) hr).trans (h.block i hi hr)⟩
theorem grown_ext {a b : World} (row : Option Nat) (h : Ext a b) : a.grownBy b row := ⟨h.os, h.tape, h.output, h.size, fun _ hi _ => h.block hi⟩
theorem set_marks (l : List (List UInt8)) (k i : Nat) (h : i < l.length) : (marksL k i ++ l.drop i).set i (markL (k + i)) = marksL k (i + 1) ++ l.drop (i + 1) := by
  rw [List.set_append_right _ _ (by rw [marksL_len]; omega), marksL_len, Nat.sub_self, List.drop_eq_getElem_cons h, List.set_cons_zero, marksL_succ, List.append_assoc]; rfl
def IsRows (l : List (List UInt8)) : Prop := (∀ r ∈ l, IsRow r ∧ r.length = (l.getD 0 []).length) ∧ l.length ≤ 800
instance (l : List (List UInt8)) : Decidable (IsRows l) := by unfold IsRows; infer_instance
theorem sl6Rows_ok (v : Value) (l : List (List UInt8)) (hl : l.length ≤ 1000000000) (w : World) (h : Sq fS 1 w v l) : Fn 172 [v] w (fun v _ => v = .bool (decide (IsRows l))) := by
  (refine callsV_of mix Try.func172 c_sl6Rows ?_; simp only [↓vsd, vsn, gW, qd, qv, ev, pick, argE, zipE, ne_eq, eq_self, forall_const, implies_true, if_true, if_false, reduceIte, reduceCtorEq, Nat.reduceEqDiff, Nat.reduceAdd, Nat.reduceLT, ↓us_sl6Rows, r_sl6Rows])
  simp only [↓vsd, vsn, gW, qd, qv, ev, pick, argE, zipE, ne_eq, eq_self, forall_const, implies_true, if_true, if_false, reduceIte, reduceCtorEq, Nat.reduceEqDiff, Nat.reduceAdd, Nat.reduceLT, ↓us_sl6Rows, r_sl6Rows, h.facts]
  refine m_upto l.length (fun k vs w' => vs = [.int .i64 k] ∧ (∀ r ∈ l.take k, IsRow r ∧ r.length = (l.getD 0 []).length) ∧ Ext w w') ⟨rfl, by simp, Ext.refl _⟩ ?_
  rintro k vs w1 hk ⟨rfl, hall, hx⟩
  have hq := h.ext hx
  by_cases hlt : k < l.length
  · have hltI : (k : Int) < l.length := by omega
    have hltJ : ¬ (l.length : Int) ≤ k := by omega
    have h0 : 0 < l.length := by omega
    simp only [↓vsd, vsn, gW, qd, qv, ev, pick, argE, zipE, ne_eq, eq_self, forall_const, implies_true, if_true, if_false, reduceIte, reduceCtorEq, Nat.reduceEqDiff, Nat.reduceAdd, Nat.reduceLT, ↓us_sl6Rows, r_sl6Rows, hq.facts, hq.at1 [] hlt, hltI, hltJ]
    refine ⟨by omega, m_call (sl1Row_ok _ _) ?_⟩
    rintro _ w2 hx2 rfl
    have hq2 := hq.ext hx2
    have a0 := hq2.at0 [] h0
    simp only [↓vsd, vsn, gW, qd, qv, ev, pick, argE, zipE, ne_eq, eq_self, forall_const, implies_true, if_true, if_false, reduceIte, reduceCtorEq, Nat.reduceEqDiff, Nat.reduceAdd, Nat.reduceLT, ↓us_sl6Rows, r_sl6Rows, hq2.facts, a0]
    refine ⟨fun _ => by omega, fun hbad => ⟨hx.trans hx2, ?_⟩, fun hgood => ⟨inR_i64 (by omega), UpTo.next hlt ⟨rfl, fun r hr => ?_, hx.trans hx2⟩⟩⟩
    · have : ¬ IsRows l := fun hh => by
        have := hh.1 _ (getD_mem [] hlt)
        rcases hbad with h | h
        · exact h this.1
        · omega
      simp [this]
    · rcases mem_take (d := []) hlt hr with h | rfl
      · exact hall r h
      · exact ⟨hgood.1, by omega⟩
  · obtain rfl : k = l.length := by omega
    have hltI : ¬ (l.length : Int) < l.length := by omega
    simp only [↓vsd, vsn, gW, qd, qv, ev, pick, argE, zipE, ne_eq, eq_self, forall_const, implies_true, if_true, if_false, reduceIte, reduceCtorEq, Nat.reduceEqDiff, Nat.reduceAdd, Nat.reduceLT, ↓us_sl6Rows, r_sl6Rows, hq.facts, hltI]
    refine ⟨hx, ?_⟩
    rw [List.take_length] at hall
    congr 1
    exact propext ⟨fun h => ⟨hall, by omega⟩, fun h => by have := h.2; omega⟩
theorem iisRowOf_ok (n : Int) (l : List UInt8) (w : World) : Fn 143 [.int .i64 n, S l] w (fun v _ => v = .bool (decide ((l.length : Int) = n) && decide (IsRow l))) := by
  (refine callsV_of mix Try.func143 c_iisRowOf ?_; simp only [↓vsd, vsn, gW, qd, qv, ev, pick, argE, zipE, ne_eq, eq_self, forall_const, implies_true, if_true, if_false, reduceIte, reduceCtorEq, Nat.reduceEqDiff, Nat.reduceAdd, Nat.reduceLT, ↓us_iisRowOf, r_iisRowOf])
  refine ⟨fun he => m_call (iGoodRow_ok _ _) ?_, fun hne => ⟨Ext.refl _, by simp [hne]⟩⟩
  rintro _ w1 hx rfl
  simp only [↓vsd, vsn, gW, qd, qv, ev, pick, argE, zipE, ne_eq, eq_self, forall_const, implies_true, if_true, if_false, reduceIte, reduceCtorEq, Nat.reduceEqDiff, Nat.reduceAdd, Nat.reduceLT, ↓us_iisRowOf, r_iisRowOf]
  exact hx
theorem iGoodRows_ok (v : Value) (l : List (List UInt8)) (hl : l.length ≤ 1000000000) (w : World) (h : Sq fS 1 w v l) : Fn 115 [v] w (fun v _ => v = .bool (decide (IsRows l))) := by
  (refine callsV_of mix Try.func115 c_iGoodRows ?_; simp only [↓vsd, vsn, gW, qd, qv, ev, pick, argE, zipE, ne_eq, eq_self, forall_const, implies_true, if_true, if_false, reduceIte, reduceCtorEq, Nat.reduceEqDiff, Nat.reduceAdd, Nat.reduceLT, ↓us_iGoodRows, r_iGoodRows])
  simp only [↓vsd, vsn, gW, qd, qv, ev, pick, argE, zipE, ne_eq, eq_self, forall_const, implies_true, if_true, if_false, reduceIte, reduceCtorEq, Nat.reduceEqDiff, Nat.reduceAdd, Nat.reduceLT, ↓us_iGoodRows, r_iGoodRows, h.facts]
  refine ⟨fun hbig => ⟨Ext.refl _, ?_⟩, fun hsm => ?_⟩
  · have : ¬ IsRows l := fun hh => by have := hh.2; omega
    simp [this]
  refine m_upto l.length (fun k vs w' => vs = [.int .i64 k] ∧ (∀ r ∈ l.take k, IsRow r ∧ r.length = (l.getD 0 []).length) ∧ Ext w w') ⟨rfl, by simp, Ext.refl _⟩ ?_
  rintro k vs w1 hk ⟨rfl, hall, hx⟩
  have hq := h.ext hx
  by_cases hlt : k < l.length
  · have hltI : (k : Int) < l.length := by omega
    have hltJ : ¬ (l.length : Int) ≤ k := by omega
    have h0 : 0 < l.length := by omega
    have a0 := hq.at0 [] h0
    simp only [↓vsd, vsn, gW, qd, qv, ev, pick, argE, zipE, ne_eq, eq_self, forall_const, implies_true, if_true, if_false, reduceIte, reduceCtorEq, Nat.reduceEqDiff, Nat.reduceAdd, Nat.reduceLT, ↓us_iGoodRows, r_iGoodRows, hq.facts, hq.at1 [] hlt, hltI, hltJ, a0]
    refine ⟨by omega, by omega, m_call (iisRowOf_ok _ _ _) ?_⟩
    rintro _ w2 hx2 rfl
    simp only [↓vsd, vsn, gW, qd, qv, ev, pick, argE, zipE, ne_eq, eq_self, forall_const, implies_true, if_true, if_false, reduceIte, reduceCtorEq, Nat.reduceEqDiff, Nat.reduceAdd, Nat.reduceLT, ↓us_iGoodRows, r_iGoodRows]
    refine ⟨fun hbad => ⟨hx.trans hx2, ?_⟩, fun hgood => ⟨inR_i64 (by omega), UpTo.next hlt ⟨rfl, fun r hr => ?_, hx.trans hx2⟩⟩⟩
    · have : ¬ IsRows l := fun hh => by
        have := hh.1 _ (getD_mem [] hlt)
        rcases hbad with h | h
        · omega
        · exact h this.1
      simp [this]
    · rcases mem_take (d := []) hlt hr with h | rfl
      · exact hall r h
      · exact ⟨hgood.2, by omega⟩
  · obtain rfl : k = l.length := by omega
    have hltI : ¬ (l.length : Int) < l.length := by omega
    simp only [↓vsd, vsn, gW, qd, qv, ev, pick, argE, zipE, ne_eq, eq_self, forall_const, implies_true, if_true, if_false, reduceIte, reduceCtorEq, Nat.reduceEqDiff, Nat.reduceAdd, Nat.reduceLT, ↓us_iGoodRows, r_iGoodRows, hq.facts, hltI]
    refine ⟨hx, ?_⟩
    rw [List.take_length] at hall
    have : IsRows l := ⟨hall, by omega⟩
    simp [this]
end Go.Proofs.Ytnincmnkdjlndaa
