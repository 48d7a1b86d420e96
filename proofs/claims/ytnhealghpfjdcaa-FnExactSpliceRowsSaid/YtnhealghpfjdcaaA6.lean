/-
  Lists of texts: the laws' helpers (size, copy, comparison, marks) and lists of rows.
  Conditions: none.
-/
import Derived.Test.YtnhealghpfjdcaaA1
set_option linter.unusedSimpArgs false
set_option linter.unusedVariables false
set_option linter.defProp false
namespace Go.Proofs.Ytnhealghpfjdcaa
open Go Go.RowKit
section
variable (P : Program) (k : KT) (e : Env) (w : World)
abbrev b32_1 : X := (.cond (.t 11) (.seq (.reg [4] (.c (.q 4 [] (.mv (.c (.int .i64 (-1))))) .nil)) .ret) .skip)
def t32_1 := b32_1
theorem u32_1 : vcK P t32_1 k e w = vcK P b32_1 k e w := rfl
abbrev b32_2 : X := (.cond (.t 15) .skip (.exit 0))
def t32_2 := b32_2
theorem u32_2 : vcK P t32_2 k e w = vcK P b32_2 k e w := rfl
abbrev b32_3 : X := (.cond (.t 26) (.seq (.reg [4] (.c (.q 4 [] (.mv (.c (.int .i64 (-1))))) .nil)) .ret) .skip)
def t32_3 := b32_3
theorem u32_3 : vcK P t32_3 k e w = vcK P b32_3 k e w := rfl
abbrev b32_4 : X := (.seq (.reg [0, 1, 5, 26] (.c (.q 25 [] (.mv (.t 1))) (.c (.q 26 [] (.bin .lss (.t 25) (.c (.int .i64 0)))) .nil))) t32_3)
def t32_4 := b32_4
theorem u32_4 : vcK P t32_4 k e w = vcK P b32_4 k e w := rfl
abbrev b32_5 : X := (.reg [0, 1, 5] (.c (.q 16 [] (.mv (.t 5))) (.c (.q 17 [] (.bin .add (.t 16) (.c (.int .i64 1)))) (.c (.q 5 [] (.mv (.t 17))) .nil))))
def t32_5 := b32_5
theorem u32_5 : vcK P t32_5 k e w = vcK P b32_5 k e w := rfl
abbrev b32_6 : X := (.seq (.blk 1 (.seq (.reg [0, 1, 5] (.c (.q 18 [] (.mv (.t 1))) (.c (.q 19 [] (.mv (.t 0))) (.c (.q 20 [] (.mv (.t 5))) (.c (.q 21 [] (.ia 1 (.t 19) (.t 20))) (.c (.q 22 [] (.ld (.t 21))) (.c (.q 23 [] (.len (.t 22))) (.c (.q 24 [] (.bin .sub (.t 18) (.t 23))) (.c (.q 1 [] (.mv (.t 24))) .nil))))))))) t32_4)) t32_5)
def t32_6 := b32_6
theorem u32_6 : vcK P t32_6 k e w = vcK P b32_6 k e w := rfl
abbrev b32_7 : X := (.seq (.seq (.reg [0, 1, 5, 15] (.c (.q 12 [] (.mv (.t 5))) (.c (.q 13 [] (.mv (.t 0))) (.c (.q 14 [] (.lens (.t 13))) (.c (.q 15 [] (.bin .lss (.t 12) (.t 14))) .nil))))) t32_2) t32_6)
def t32_7 := b32_7
theorem u32_7 : vcK P t32_7 k e w = vcK P b32_7 k e w := rfl
abbrev b32_8 : X := (.blk 0 (.loop [1, 5] [0] t32_7))
def t32_8 := b32_8
theorem u32_8 : vcK P t32_8 k e w = vcK P b32_8 k e w := rfl
abbrev b32_9 : X := (.seq (.reg [4] (.c (.q 27 [] (.mv (.t 1))) (.c (.q 4 [] (.mv (.t 27))) .nil))) .ret)
def t32_9 := b32_9
theorem u32_9 : vcK P t32_9 k e w = vcK P b32_9 k e w := rfl
abbrev b32_10 : X := (.seq (.seq (.reg [0, 1, 5] (.c (.q 5 [] (.mv (.c (.int .i64 0)))) .nil)) t32_8) t32_9)
def t32_10 := b32_10
theorem u32_10 : vcK P t32_10 k e w = vcK P b32_10 k e w := rfl
abbrev b32_11 : X := (.seq (.seq (.reg [0, 1, 11] (.c (.q 10 [] (.mv (.t 1))) (.c (.q 11 [] (.bin .lss (.t 10) (.c (.int .i64 0)))) .nil))) t32_1) t32_10)
def t32_11 := b32_11
theorem u32_11 : vcK P t32_11 k e w = vcK P b32_11 k e w := rfl
abbrev b32_12 : X := (.seq (.reg [0, 1] (.c (.q 6 [] (.mv (.t 1))) (.c (.q 7 [] (.mv (.t 0))) (.c (.q 8 [] (.lens (.t 7))) (.c (.q 9 [] (.bin .sub (.t 6) (.t 8))) (.c (.q 1 [] (.mv (.t 9))) .nil)))))) t32_11)
def t32_12 := b32_12
theorem u32_12 : vcK P t32_12 k e w = vcK P b32_12 k e w := rfl
abbrev b32_0 : X := (.seq (.reg [0, 1] (.c (.q 4 [] (.mv (.c (.int .i64 0)))) .nil)) t32_12)
def x_lszStringS := b32_0
theorem u32_0 : vcK P x_lszStringS k e w = vcK P b32_0 k e w := rfl
def r_lszStringS : List XO := [(.mv (.t 4))]
theorem c_lszStringS : convF Try.prog [89, 116, 117, 121, 143, 161, 162, 163, 166, 168, 234] Try.f32 [([0, 1], []), ([0, 1], []), ([0, 1, 11], []), ([4], []), ([0, 1, 5], []), ([1, 5], [0]), ([0, 1, 5, 15], []), ([0, 1, 5], []), ([0, 1, 5, 26], []), ([4], []), ([0, 1, 5], []), ([4], [])] = some (x_lszStringS, r_lszStringS) := by kernel_rfl
def us_lszStringS := aI @u32_0 (aI @u32_1 (aI @u32_2 (aI @u32_3 (aI @u32_4 (aI @u32_5 (aI @u32_6 (aI @u32_7 (aI @u32_8 (aI @u32_9 (aI @u32_10 (aI @u32_11 @u32_12)))))))))))
abbrev b34_1 : X := (.cond (.t 11) .skip (.exit 0))
def t34_1 := b34_1
theorem u34_1 : vcK P t34_1 k e w = vcK P b34_1 k e w := rfl
abbrev b34_2 : X := (.reg [0, 3, 4] (.c (.q 12 [] (.mv (.t 4))) (.c (.q 13 [] (.bin .add (.t 12) (.c (.int .i64 1)))) (.c (.q 4 [] (.mv (.t 13))) .nil))))
def t34_2 := b34_2
theorem u34_2 : vcK P t34_2 k e w = vcK P b34_2 k e w := rfl
abbrev b34_3 : X := (.seq (.blk 1 (.reg [0, 3, 4] (.c (.q 14 [] (.mv (.t 3))) (.c (.q 15 [] (.mv (.t 4))) (.c (.q 16 [] (.mv (.t 0))) (.c (.q 17 [] (.mv (.t 4))) (.c (.q 18 [] (.ia 1 (.t 16) (.t 17))) (.c (.q 19 [] (.ld (.t 18))) (.c (.q 20 [] (.ia 1 (.t 14) (.t 15))) (.c (.e none [] (.st 1 (.t 20) (.t 19))) .nil)))))))))) t34_2)
def t34_3 := b34_3
theorem u34_3 : vcK P t34_3 k e w = vcK P b34_3 k e w := rfl
abbrev b34_4 : X := (.seq (.seq (.reg [0, 3, 4, 11] (.c (.q 8 [] (.mv (.t 4))) (.c (.q 9 [] (.mv (.t 0))) (.c (.q 10 [] (.lens (.t 9))) (.c (.q 11 [] (.bin .lss (.t 8) (.t 10))) .nil))))) t34_1) t34_3)
def t34_4 := b34_4
theorem u34_4 : vcK P t34_4 k e w = vcK P b34_4 k e w := rfl
abbrev b34_5 : X := (.blk 0 (.loop [4] [0, 3] t34_4))
def t34_5 := b34_5
theorem u34_5 : vcK P t34_5 k e w = vcK P b34_5 k e w := rfl
abbrev b34_6 : X := (.seq (.reg [2] (.c (.q 21 [] (.mv (.t 3))) (.c (.q 2 [] (.mv (.t 21))) .nil))) .ret)
def t34_6 := b34_6
theorem u34_6 : vcK P t34_6 k e w = vcK P b34_6 k e w := rfl
abbrev b34_7 : X := (.seq (.seq (.reg [0, 3, 4] (.c (.q 4 [] (.mv (.c (.int .i64 0)))) .nil)) t34_5) t34_6)
def t34_7 := b34_7
theorem u34_7 : vcK P t34_7 k e w = vcK P b34_7 k e w := rfl
abbrev b34_8 : X := (.seq (.reg [0, 3] (.c (.q 5 [] (.mv (.t 0))) (.c (.q 6 [] (.lens (.t 5))) (.c (.e (some 7) [] (.msl 22 9 1 16 [(S [])] (.t 6) (.t 6))) (.c (.q 3 [] (.mv (.t 7))) .nil))))) t34_7)
def t34_8 := b34_8
theorem u34_8 : vcK P t34_8 k e w = vcK P b34_8 k e w := rfl
abbrev b34_0 : X := (.seq (.reg [0] (.c (.q 2 [] (.mv (.c (.slice none 0 0)))) .nil)) t34_8)
def x_ltoStringS := b34_0
theorem u34_0 : vcK P x_ltoStringS k e w = vcK P b34_0 k e w := rfl
def r_ltoStringS : List XO := [(.mv (.t 2))]
theorem c_ltoStringS : convF Try.prog [89, 116, 117, 121, 143, 161, 162, 163, 166, 168, 234] Try.f34 [([0], []), ([0, 3], []), ([0, 3, 4], []), ([4], [0, 3]), ([0, 3, 4, 11], []), ([0, 3, 4], []), ([0, 3, 4], []), ([2], [])] = some (x_ltoStringS, r_ltoStringS) := by kernel_rfl
def us_ltoStringS := aI @u34_0 (aI @u34_1 (aI @u34_2 (aI @u34_3 (aI @u34_4 (aI @u34_5 (aI @u34_6 (aI @u34_7 @u34_8)))))))
abbrev b21_1 : X := (.cond (.t 10) (.seq (.reg [4] (.c (.q 4 [] (.mv (.c (.bool false)))) .nil)) .ret) .skip)
def t21_1 := b21_1
theorem u21_1 : vcK P t21_1 k e w = vcK P b21_1 k e w := rfl
abbrev b21_2 : X := (.cond (.t 14) .skip (.exit 0))
def t21_2 := b21_2
theorem u21_2 : vcK P t21_2 k e w = vcK P b21_2 k e w := rfl
abbrev b21_3 : X := (.cond (.t 25) (.seq (.reg [4] (.c (.q 4 [] (.mv (.c (.bool false)))) .nil)) .ret) .skip)
def t21_3 := b21_3
theorem u21_3 : vcK P t21_3 k e w = vcK P b21_3 k e w := rfl
abbrev b21_4 : X := (.reg [0, 1, 5] (.c (.q 15 [] (.mv (.t 5))) (.c (.q 16 [] (.bin .add (.t 15) (.c (.int .i64 1)))) (.c (.q 5 [] (.mv (.t 16))) .nil))))
def t21_4 := b21_4
theorem u21_4 : vcK P t21_4 k e w = vcK P b21_4 k e w := rfl
abbrev b21_5 : X := (.seq (.blk 1 (.seq (.drw [0, 1, 5, 25] (.c (.q 17 [] (.mv (.t 0))) (.c (.q 18 [] (.mv (.t 5))) (.c (.q 19 [] (.ia 1 (.t 17) (.t 18))) (.c (.q 20 [] (.ld (.t 19))) (.c (.q 21 [] (.mv (.t 1))) (.c (.q 22 [] (.mv (.t 5))) (.c (.q 23 [] (.ia 1 (.t 21) (.t 22))) (.c (.q 24 [] (.ld (.t 23))) (.c (.q 25 [] (.bin .neq (.t 20) (.t 24))) .nil)))))))))) t21_3)) t21_4)
def t21_5 := b21_5
theorem u21_5 : vcK P t21_5 k e w = vcK P b21_5 k e w := rfl
abbrev b21_6 : X := (.seq (.seq (.reg [0, 1, 5, 14] (.c (.q 11 [] (.mv (.t 5))) (.c (.q 12 [] (.mv (.t 0))) (.c (.q 13 [] (.lens (.t 12))) (.c (.q 14 [] (.bin .lss (.t 11) (.t 13))) .nil))))) t21_2) t21_5)
def t21_6 := b21_6
theorem u21_6 : vcK P t21_6 k e w = vcK P b21_6 k e w := rfl
abbrev b21_7 : X := (.blk 0 (.loop [5] [0, 1] t21_6))
def t21_7 := b21_7
theorem u21_7 : vcK P t21_7 k e w = vcK P b21_7 k e w := rfl
abbrev b21_8 : X := (.seq (.reg [4] (.c (.q 4 [] (.mv (.c (.bool true)))) .nil)) .ret)
def t21_8 := b21_8
theorem u21_8 : vcK P t21_8 k e w = vcK P b21_8 k e w := rfl
abbrev b21_9 : X := (.seq (.seq (.reg [0, 1, 5] (.c (.q 5 [] (.mv (.c (.int .i64 0)))) .nil)) t21_7) t21_8)
def t21_9 := b21_9
theorem u21_9 : vcK P t21_9 k e w = vcK P b21_9 k e w := rfl
abbrev b21_10 : X := (.seq (.seq (.reg [0, 1, 10] (.c (.q 6 [] (.mv (.t 0))) (.c (.q 7 [] (.lens (.t 6))) (.c (.q 8 [] (.mv (.t 1))) (.c (.q 9 [] (.lens (.t 8))) (.c (.q 10 [] (.bin .neq (.t 7) (.t 9))) .nil)))))) t21_1) t21_9)
def t21_10 := b21_10
theorem u21_10 : vcK P t21_10 k e w = vcK P b21_10 k e w := rfl
abbrev b21_0 : X := (.seq (.reg [0, 1] (.c (.q 4 [] (.mv (.c (.bool false)))) .nil)) t21_10)
def x_leqStringS := b21_0
theorem u21_0 : vcK P x_leqStringS k e w = vcK P b21_0 k e w := rfl
def r_leqStringS : List XO := [(.mv (.t 4))]
theorem c_leqStringS : convF Try.prog [89, 116, 117, 121, 143, 161, 162, 163, 166, 168, 234] Try.f21 [([0, 1], []), ([0, 1, 10], []), ([4], []), ([0, 1, 5], []), ([5], [0, 1]), ([0, 1, 5, 14], []), ([0, 1, 5, 25], []), ([4], []), ([0, 1, 5], []), ([4], [])] = some (x_leqStringS, r_leqStringS) := by kernel_rfl
def us_leqStringS := aI @u21_0 (aI @u21_1 (aI @u21_2 (aI @u21_3 (aI @u21_4 (aI @u21_5 (aI @u21_6 (aI @u21_7 (aI @u21_8 (aI @u21_9 @u21_10)))))))))
abbrev b68_1 : X := (.cond (.t 5) (.seq (.reg [2] (.c (.q 2 [] (.mv (.s [109, 48]))) .nil)) .ret) .skip)
def t68_1 := b68_1
theorem u68_1 : vcK P t68_1 k e w = vcK P b68_1 k e w := rfl
abbrev b68_2 : X := (.cond (.t 7) .skip (.exit 0))
def t68_2 := b68_2
theorem u68_2 : vcK P t68_2 k e w = vcK P b68_2 k e w := rfl
abbrev b68_3 : X := (.reg [0, 3] (.c (.q 16 [] (.mv (.t 0))) (.c (.q 17 [] (.bin .quo (.t 16) (.c (.int .i64 10)))) (.c (.q 0 [] (.mv (.t 17))) .nil))))
def t68_3 := b68_3
theorem u68_3 : vcK P t68_3 k e w = vcK P b68_3 k e w := rfl
abbrev b68_4 : X := (.blk 1 (.seq (.reg [0, 3] (.c (.q 8 [] (.mv (.t 0))) (.c (.q 9 [] (.bin .rem (.t 8) (.c (.int .i64 10)))) (.c (.q 10 [] (.bin .add (.c (.int .i64 48)) (.t 9))) (.c (.q 11 [] (.cvi .u8 (.t 10))) (.c (.e (some 12) [] (.bsl 5 1 [(.t 11)])) (.c (.e (some 13) [] (.b2s (.t 12))) (.c (.q 14 [] (.mv (.t 3))) (.c (.q 15 [] (.bin .add (.t 13) (.t 14))) (.c (.q 3 [] (.mv (.t 15))) .nil)))))))))) t68_3))
def t68_4 := b68_4
theorem u68_4 : vcK P t68_4 k e w = vcK P b68_4 k e w := rfl
abbrev b68_5 : X := (.seq (.seq (.reg [0, 3, 7] (.c (.q 6 [] (.mv (.t 0))) (.c (.q 7 [] (.bin .gtr (.t 6) (.c (.int .i64 0)))) .nil))) t68_2) t68_4)
def t68_5 := b68_5
theorem u68_5 : vcK P t68_5 k e w = vcK P b68_5 k e w := rfl
abbrev b68_6 : X := (.seq (.reg [2] (.c (.q 18 [] (.mv (.t 3))) (.c (.q 19 [] (.bin .add (.s [109]) (.t 18))) (.c (.q 2 [] (.mv (.t 19))) .nil)))) .ret)
def t68_6 := b68_6
theorem u68_6 : vcK P t68_6 k e w = vcK P b68_6 k e w := rfl
abbrev b68_7 : X := (.seq (.blk 0 (.loop [0, 3] [] t68_5)) t68_6)
def t68_7 := b68_7
theorem u68_7 : vcK P t68_7 k e w = vcK P b68_7 k e w := rfl
abbrev b68_8 : X := (.seq (.reg [0, 3] (.c (.q 3 [] (.mv (.s []))) .nil)) t68_7)
def t68_8 := b68_8
theorem u68_8 : vcK P t68_8 k e w = vcK P b68_8 k e w := rfl
abbrev b68_9 : X := (.seq (.seq (.reg [0, 5] (.c (.q 4 [] (.mv (.t 0))) (.c (.q 5 [] (.bin .leq (.t 4) (.c (.int .i64 0)))) .nil))) t68_1) t68_8)
def t68_9 := b68_9
theorem u68_9 : vcK P t68_9 k e w = vcK P b68_9 k e w := rfl
abbrev b68_0 : X := (.seq (.reg [0] (.c (.q 2 [] (.mv (.s []))) .nil)) t68_9)
def x_lmarkText := b68_0
theorem u68_0 : vcK P x_lmarkText k e w = vcK P b68_0 k e w := rfl
def r_lmarkText : List XO := [(.mv (.t 2))]
theorem c_lmarkText : convF Try.prog [89, 116, 117, 121, 143, 161, 162, 163, 166, 168, 234] Try.f68 [([0], []), ([0, 5], []), ([2], []), ([0, 3], []), ([0, 3], []), ([0, 3, 7], []), ([0, 3], []), ([0, 3], []), ([2], [])] = some (x_lmarkText, r_lmarkText) := by kernel_rfl
def us_lmarkText := aI @u68_0 (aI @u68_1 (aI @u68_2 (aI @u68_3 (aI @u68_4 (aI @u68_5 (aI @u68_6 (aI @u68_7 (aI @u68_8 @u68_9))))))))
abbrev b23_1 : X := (.cond (.t 9) .skip (.exit 0))
def t23_1 := b23_1
theorem u23_1 : vcK P t23_1 k e w = vcK P b23_1 k e w := rfl
abbrev b23_2 : X := (.reg [0, 1, 5] (.c (.q 17 [] (.mv (.t 1))) (.c (.q 18 [] (.bin .add (.t 17) (.c (.int .i64 1)))) (.c (.q 1 [] (.mv (.t 18))) .nil))))
def t23_2 := b23_2
theorem u23_2 : vcK P t23_2 k e w = vcK P b23_2 k e w := rfl
abbrev b23_3 : X := (.reg [0, 1, 5] (.c (.q 10 [] (.mv (.t 5))) (.c (.q 11 [] (.bin .add (.t 10) (.c (.int .i64 1)))) (.c (.q 5 [] (.mv (.t 11))) .nil))))
def t23_3 := b23_3
theorem u23_3 : vcK P t23_3 k e w = vcK P b23_3 k e w := rfl
abbrev b23_4 : X := (.seq (.blk 1 (.seq (.reg [0, 1, 5] (.c (.q 12 [] (.mv (.t 0))) (.c (.q 13 [] (.mv (.t 5))) (.c (.q 14 [] (.mv (.t 1))) (.c (.e (some 15) [] (.call false 68 [(.t 14)])) (.c (.q 16 [] (.ia 1 (.t 12) (.t 13))) (.c (.e none [] (.st 1 (.t 16) (.t 15))) .nil))))))) t23_2)) t23_3)
def t23_4 := b23_4
theorem u23_4 : vcK P t23_4 k e w = vcK P b23_4 k e w := rfl
abbrev b23_5 : X := (.seq (.seq (.reg [0, 1, 5, 9] (.c (.q 6 [] (.mv (.t 5))) (.c (.q 7 [] (.mv (.t 0))) (.c (.q 8 [] (.lens (.t 7))) (.c (.q 9 [] (.bin .lss (.t 6) (.t 8))) .nil))))) t23_1) t23_4)
def t23_5 := b23_5
theorem u23_5 : vcK P t23_5 k e w = vcK P b23_5 k e w := rfl
abbrev b23_6 : X := (.blk 0 (.loop [1, 5] [0] t23_5))
def t23_6 := b23_6
theorem u23_6 : vcK P t23_6 k e w = vcK P b23_6 k e w := rfl
abbrev b23_7 : X := (.seq (.reg [4] (.c (.q 19 [] (.mv (.t 1))) (.c (.q 4 [] (.mv (.t 19))) .nil))) .ret)
def t23_7 := b23_7
theorem u23_7 : vcK P t23_7 k e w = vcK P b23_7 k e w := rfl
abbrev b23_8 : X := (.seq (.seq (.reg [0, 1, 5] (.c (.q 5 [] (.mv (.c (.int .i64 0)))) .nil)) t23_6) t23_7)
def t23_8 := b23_8
theorem u23_8 : vcK P t23_8 k e w = vcK P b23_8 k e w := rfl
abbrev b23_0 : X := (.seq (.reg [0, 1] (.c (.q 4 [] (.mv (.c (.int .i64 0)))) .nil)) t23_8)
def x_lmarkStringS := b23_0
theorem u23_0 : vcK P x_lmarkStringS k e w = vcK P b23_0 k e w := rfl
def r_lmarkStringS : List XO := [(.mv (.t 4))]
theorem c_lmarkStringS : convF Try.prog [89, 116, 117, 121, 143, 161, 162, 163, 166, 168, 234] Try.f23 [([0, 1], []), ([0, 1, 5], []), ([1, 5], [0]), ([0, 1, 5, 9], []), ([0, 1, 5], []), ([0, 1, 5], []), ([0, 1, 5], []), ([4], [])] = some (x_lmarkStringS, r_lmarkStringS) := by kernel_rfl
def us_lmarkStringS := aI @u23_0 (aI @u23_1 (aI @u23_2 (aI @u23_3 (aI @u23_4 (aI @u23_5 (aI @u23_6 (aI @u23_7 @u23_8)))))))
abbrev b24_1 : X := (.cond (.t 9) .skip (.exit 0))
def t24_1 := b24_1
theorem u24_1 : vcK P t24_1 k e w = vcK P b24_1 k e w := rfl
abbrev b24_2 : X := (.cond (.t 18) (.seq (.reg [4] (.c (.q 4 [] (.mv (.c (.int .i64 (-1))))) .nil)) .ret) .skip)
def t24_2 := b24_2
theorem u24_2 : vcK P t24_2 k e w = vcK P b24_2 k e w := rfl
abbrev b24_3 : X := (.reg [0, 1, 5] (.c (.q 19 [] (.mv (.t 1))) (.c (.q 20 [] (.bin .add (.t 19) (.c (.int .i64 1)))) (.c (.q 1 [] (.mv (.t 20))) .nil))))
def t24_3 := b24_3
theorem u24_3 : vcK P t24_3 k e w = vcK P b24_3 k e w := rfl
abbrev b24_4 : X := (.reg [0, 1, 5] (.c (.q 10 [] (.mv (.t 5))) (.c (.q 11 [] (.bin .add (.t 10) (.c (.int .i64 1)))) (.c (.q 5 [] (.mv (.t 11))) .nil))))
def t24_4 := b24_4
theorem u24_4 : vcK P t24_4 k e w = vcK P b24_4 k e w := rfl
abbrev b24_5 : X := (.seq (.blk 1 (.seq (.seq (.drw [0, 1, 5, 18] (.c (.q 12 [] (.mv (.t 0))) (.c (.q 13 [] (.mv (.t 5))) (.c (.q 14 [] (.ia 1 (.t 12) (.t 13))) (.c (.q 15 [] (.ld (.t 14))) (.c (.q 16 [] (.mv (.t 1))) (.c (.e (some 17) [] (.call false 68 [(.t 16)])) (.c (.q 18 [] (.bin .neq (.t 15) (.t 17))) .nil)))))))) t24_2) t24_3)) t24_4)
def t24_5 := b24_5
theorem u24_5 : vcK P t24_5 k e w = vcK P b24_5 k e w := rfl
abbrev b24_6 : X := (.seq (.seq (.reg [0, 1, 5, 9] (.c (.q 6 [] (.mv (.t 5))) (.c (.q 7 [] (.mv (.t 0))) (.c (.q 8 [] (.lens (.t 7))) (.c (.q 9 [] (.bin .lss (.t 6) (.t 8))) .nil))))) t24_1) t24_5)
def t24_6 := b24_6
theorem u24_6 : vcK P t24_6 k e w = vcK P b24_6 k e w := rfl
abbrev b24_7 : X := (.blk 0 (.loop [1, 5] [0] t24_6))
def t24_7 := b24_7
theorem u24_7 : vcK P t24_7 k e w = vcK P b24_7 k e w := rfl
abbrev b24_8 : X := (.seq (.reg [4] (.c (.q 21 [] (.mv (.t 1))) (.c (.q 4 [] (.mv (.t 21))) .nil))) .ret)
def t24_8 := b24_8
theorem u24_8 : vcK P t24_8 k e w = vcK P b24_8 k e w := rfl
abbrev b24_9 : X := (.seq (.seq (.reg [0, 1, 5] (.c (.q 5 [] (.mv (.c (.int .i64 0)))) .nil)) t24_7) t24_8)
def t24_9 := b24_9
theorem u24_9 : vcK P t24_9 k e w = vcK P b24_9 k e w := rfl
abbrev b24_0 : X := (.seq (.reg [0, 1] (.c (.q 4 [] (.mv (.c (.int .i64 0)))) .nil)) t24_9)
def x_lheldStringS := b24_0
theorem u24_0 : vcK P x_lheldStringS k e w = vcK P b24_0 k e w := rfl
def r_lheldStringS : List XO := [(.mv (.t 4))]
theorem c_lheldStringS : convF Try.prog [89, 116, 117, 121, 143, 161, 162, 163, 166, 168, 234] Try.f24 [([0, 1], []), ([0, 1, 5], []), ([1, 5], [0]), ([0, 1, 5, 9], []), ([0, 1, 5, 18], []), ([4], []), ([0, 1, 5], []), ([0, 1, 5], []), ([4], [])] = some (x_lheldStringS, r_lheldStringS) := by kernel_rfl
def us_lheldStringS := aI @u24_0 (aI @u24_1 (aI @u24_2 (aI @u24_3 (aI @u24_4 (aI @u24_5 (aI @u24_6 (aI @u24_7 (aI @u24_8 @u24_9))))))))
abbrev b112_1 : X := (.seq (.reg [4] (.c (.q 5 [] (.mv (.t 1))) (.c (.q 6 [] (.len (.t 5))) (.c (.q 7 [] (.mv (.t 0))) (.c (.q 8 [] (.bin .eql (.t 6) (.t 7))) (.c (.q 9 [] (.mv (.t 8))) (.c (.q 10 [(9, true)] (.mv (.t 1))) (.c (.e (some 11) [(9, true)] (.call false 110 [(.t 10)])) (.c (.q 12 [] (.pick (.t 9) (.t 11) (.c (.bool false)))) (.c (.q 4 [] (.mv (.t 12))) .nil)))))))))) .ret)
def t112_1 := b112_1
theorem u112_1 : vcK P t112_1 k e w = vcK P b112_1 k e w := rfl
abbrev b112_0 : X := (.seq (.reg [0, 1] (.c (.q 4 [] (.mv (.c (.bool false)))) .nil)) t112_1)
def x_iisRowOf := b112_0
theorem u112_0 : vcK P x_iisRowOf k e w = vcK P b112_0 k e w := rfl
def r_iisRowOf : List XO := [(.mv (.t 4))]
theorem c_iisRowOf : convF Try.prog [89, 116, 117, 121, 143, 161, 162, 163, 166, 168, 234] Try.f112 [([0, 1], []), ([4], [])] = some (x_iisRowOf, r_iisRowOf) := by kernel_rfl
def us_iisRowOf := aI @u112_0 @u112_1
end

theorem getD_mem {α : Type} {l : List α} {k : Nat} (d : α) (h : k < l.length) : l.getD k d ∈ l := by rw [List.getD_eq_getElem?_getD, List.getElem?_eq_getElem h]; exact List.getElem_mem h
theorem mem_take {α : Type} {l : List α} {k : Nat} {d x : α} (h : k < l.length) (hx : x ∈ l.take (k + 1)) : x ∈ l.take k ∨ x = l.getD k d := by
  rw [List.take_add_one, List.getElem?_eq_getElem h] at hx
  rcases List.mem_append.1 hx with h' | h'
  · exact .inl h'
  · rw [List.getD_eq_getElem?_getD, List.getElem?_eq_getElem h]
    exact .inr (by simpa using h')
theorem fill_set {α : Type} (l : List α) (d : α) (k : Nat) (h : k < l.length) : (l.take k ++ List.replicate (l.length - k) d).set k (l.getD k d) = l.take (k + 1) ++ List.replicate (l.length - (k + 1)) d := by
  rw [List.set_append_right _ _ (by simp; omega), List.length_take, Nat.min_eq_left (by omega), Nat.sub_self, show l.length - k = (l.length - (k + 1)) + 1 by omega, List.replicate_succ, List.set_cons_zero, List.take_add_one, List.getElem?_eq_getElem h, List.getD_eq_getElem?_getD, List.getElem?_eq_getElem h]
  simp only [Option.toList_some, Option.getD_some, List.append_assoc, List.cons_append, List.nil_append]
theorem ne_at {α : Type} {l l' : List α} {d : α} (k : Nat) (h : ¬ l.getD k d = l'.getD k d) : ¬ l = l' := fun e => h (by rw [e])
theorem eq_take {α : Type} {l l' : List α} {d : α} {k : Nat} (h : l.take k = l'.take k) (h1 : k < l.length) (h2 : k < l'.length) (e : l.getD k d = l'.getD k d) : l.take (k + 1) = l'.take (k + 1) := by
  rw [List.getD_eq_getElem?_getD, List.getD_eq_getElem?_getD, List.getElem?_eq_getElem h1, List.getElem?_eq_getElem h2, Option.getD_some, Option.getD_some] at e
  rw [List.take_add_one, List.take_add_one, h, List.getElem?_eq_getElem h1, List.getElem?_eq_getElem h2, e]
theorem eq_len {α : Type} {l l' : List α} (h : l.take l.length = l'.take l.length) (e : l.length = l'.length) : l = l' := by
  rw [List.take_length, e, List.take_length] at h; exact h

theorem lszStringS_ok (v : Value) (l : List (List UInt8)) (n : Int) (hn : 0 ≤ n ∧ n ≤ 1048576) (hl : l.length ≤ 9223372036854775807) (hs : ∀ x ∈ l, x.length ≤ 9223372036854775807) (w : World) (h : Sq fS 1 w v l) :
    Fn 32 [v, .int .i64 n] w (fun v _ => ∃ m : Int, v = .int .i64 m ∧ m ≤ 1048576 ∧ (0 ≤ m → l.length ≤ 1048576 ∧ ∀ x ∈ l, x.length ≤ 1048576)) := by
  (refine callsV_of mix Try.func32 c_lszStringS ?_; simp only [↓vsd, vsn, gW, qd, qv, ev, pick, argE, zipE, ne_eq, eq_self, forall_const, implies_true, if_true, if_false, reduceIte, reduceCtorEq, Nat.reduceEqDiff, Nat.reduceAdd, Nat.reduceLT, ↓us_lszStringS, r_lszStringS])
  simp only [↓vsd, vsn, gW, qd, qv, ev, pick, argE, zipE, ne_eq, eq_self, forall_const, implies_true, if_true, if_false, reduceIte, reduceCtorEq, Nat.reduceEqDiff, Nat.reduceAdd, Nat.reduceLT, ↓us_lszStringS, r_lszStringS, h.facts]
  refine ⟨inR_i64 (by omega), fun hlt => ⟨Ext.refl _, -1, rfl, by omega, fun h => by omega⟩, fun hge => ?_⟩
  refine m_upto l.length (fun k vs w' => ∃ m : Int, vs = [.int .i64 m, .int .i64 k] ∧ 0 ≤ m ∧ m ≤ 1048576 ∧ (∀ x ∈ l.take k, x.length ≤ 1048576) ∧ Ext w w') ⟨_, rfl, by omega, by omega, by simp, Ext.refl _⟩ ?_
  rintro k vs w1 hk ⟨m, rfl, h0, h1, hall, hx⟩
  have hq := h.ext hx
  by_cases hlt : k < l.length
  · have hltI : (k : Int) < l.length := by omega
    have hltJ : ¬ (l.length : Int) ≤ k := by omega
    have := hs _ (getD_mem [] hlt)
    simp only [↓vsd, vsn, gW, qd, qv, ev, pick, argE, zipE, ne_eq, eq_self, forall_const, implies_true, if_true, if_false, reduceIte, reduceCtorEq, Nat.reduceEqDiff, Nat.reduceAdd, Nat.reduceLT, ↓us_lszStringS, r_lszStringS, hq.facts, hq.at1 [] hlt, hltI, hltJ]
    refine ⟨by omega, inR_i64 (by omega), fun _ => ⟨hx, -1, rfl, by omega, fun h => by omega⟩, fun hge2 => ⟨inR_i64 (by omega), UpTo.next hlt ⟨_, rfl, by omega, by omega, fun x hx' => ?_, hx⟩⟩⟩
    rcases mem_take (d := []) hlt hx' with h | rfl
    · exact hall x h
    · omega
  · obtain rfl : k = l.length := by omega
    have hltI : ¬ (l.length : Int) < l.length := by omega
    simp only [↓vsd, vsn, gW, qd, qv, ev, pick, argE, zipE, ne_eq, eq_self, forall_const, implies_true, if_true, if_false, reduceIte, reduceCtorEq, Nat.reduceEqDiff, Nat.reduceAdd, Nat.reduceLT, ↓us_lszStringS, r_lszStringS, hq.facts, hltI]
    exact ⟨hx, m, rfl, h1, fun _ => ⟨by omega, by simpa using hall⟩⟩
theorem ltoStringS_ok (v : Value) (l : List (List UInt8)) (hl : l.length ≤ 1048576) (w : World) (h : Sq fS 1 w v l) : Fn 34 [v] w (fun v' w' => Own fS 1 9 w.heap.size w' v' l) := by
  (refine callsV_of mix Try.func34 c_ltoStringS ?_; simp only [↓vsd, vsn, gW, qd, qv, ev, pick, argE, zipE, ne_eq, eq_self, forall_const, implies_true, if_true, if_false, reduceIte, reduceCtorEq, Nat.reduceEqDiff, Nat.reduceAdd, Nat.reduceLT, ↓us_ltoStringS, r_ltoStringS])
  simp only [↓vsd, vsn, gW, qd, qv, ev, pick, argE, zipE, ne_eq, eq_self, forall_const, implies_true, if_true, if_false, reduceIte, reduceCtorEq, Nat.reduceEqDiff, Nat.reduceAdd, Nat.reduceLT, ↓us_ltoStringS, r_ltoStringS, h.facts]
  refine m_msl (f := fS) (B := w.heap.size) [] fS_len rfl (by omega) (by decide) (Nat.le_refl _) ?_
  rintro vo w1 ho1 _ hx1
  simp only [↓vsd, vsn, gW, qd, qv, ev, pick, argE, zipE, ne_eq, eq_self, forall_const, implies_true, if_true, if_false, reduceIte, reduceCtorEq, Nat.reduceEqDiff, Nat.reduceAdd, Nat.reduceLT, ↓us_ltoStringS, r_ltoStringS]
  refine m_upto l.length (fun k vs w' => vs = [.int .i64 k] ∧ Own fS 1 9 w.heap.size w' vo (l.take k ++ List.replicate (l.length - k) []) ∧ Ext w w') ⟨rfl, by simpa using ho1, hx1⟩ ?_
  rintro k vs w2 hk ⟨rfl, ho2, hx2⟩
  have hq := h.ext hx2
  by_cases hlt : k < l.length
  · have hltI : (k : Int) < l.length := by omega
    have hltJ : ¬ (l.length : Int) ≤ k := by omega
    have hlen : (l.take k ++ List.replicate (l.length - k) ([] : List UInt8)).length = l.length := by simp; omega
    simp only [↓vsd, vsn, gW, qd, qv, ev, pick, argE, zipE, ne_eq, eq_self, forall_const, implies_true, if_true, if_false, reduceIte, reduceCtorEq, Nat.reduceEqDiff, Nat.reduceAdd, Nat.reduceLT, ↓us_ltoStringS, r_ltoStringS, hq.facts, hq.at1 [] hlt, hltI, hltJ, ho2.sq.facts, hlen]
    refine ⟨by omega, by omega, m_set1 k (l.getD k []) ho2 rfl (by omega) rfl fS_one ?_⟩
    rintro w4 ho4 hg4 _
    simp only [↓vsd, vsn, gW, qd, qv, ev, pick, argE, zipE, ne_eq, eq_self, forall_const, implies_true, if_true, if_false, reduceIte, reduceCtorEq, Nat.reduceEqDiff, Nat.reduceAdd, Nat.reduceLT, ↓us_ltoStringS, r_ltoStringS]
    refine ⟨inR_i64 (by omega), UpTo.next hlt ⟨rfl, ho4.to (fill_set l [] k hlt), ho2.grown hx2 (Nat.le_refl _) hg4⟩⟩
  · obtain rfl : k = l.length := by omega
    have hltI : ¬ (l.length : Int) < l.length := by omega
    simp only [↓vsd, vsn, gW, qd, qv, ev, pick, argE, zipE, ne_eq, eq_self, forall_const, implies_true, if_true, if_false, reduceIte, reduceCtorEq, Nat.reduceEqDiff, Nat.reduceAdd, Nat.reduceLT, ↓us_ltoStringS, r_ltoStringS, hq.facts, hltI]
    exact ⟨hx2, ho2.to (by simp)⟩
theorem leqStringS_ok (v1 v2 : Value) (l1 l2 : List (List UInt8)) (w : World) (h1 : Sq fS 1 w v1 l1) (h2 : Sq fS 1 w v2 l2) (hl : l1.length ≤ 1000000000) : Fn 21 [v1, v2] w (fun v _ => v = .bool (decide (l1 = l2))) := by
  (refine callsV_of mix Try.func21 c_leqStringS ?_; simp only [↓vsd, vsn, gW, qd, qv, ev, pick, argE, zipE, ne_eq, eq_self, forall_const, implies_true, if_true, if_false, reduceIte, reduceCtorEq, Nat.reduceEqDiff, Nat.reduceAdd, Nat.reduceLT, ↓us_leqStringS, r_leqStringS])
  simp only [↓vsd, vsn, gW, qd, qv, ev, pick, argE, zipE, ne_eq, eq_self, forall_const, implies_true, if_true, if_false, reduceIte, reduceCtorEq, Nat.reduceEqDiff, Nat.reduceAdd, Nat.reduceLT, ↓us_leqStringS, r_leqStringS, h1.facts, h2.facts]
  refine ⟨fun hne => ⟨Ext.refl _, ?_⟩, fun he => ?_⟩
  · have : ¬ l1 = l2 := fun e => hne (by rw [e])
    simp [this]
  refine m_upto l1.length (fun k vs w' => vs = [.int .i64 k] ∧ l1.take k = l2.take k ∧ Ext w w') ⟨rfl, rfl, Ext.refl _⟩ ?_
  rintro k vs w3 hk ⟨rfl, heq, hx⟩
  have g1 := h1.ext hx
  have g2 := h2.ext hx
  by_cases hlt : k < l1.length
  · have hlt2 : k < l2.length := by omega
    have hltI : (k : Int) < l1.length := by omega
    have hltJ : ¬ (l1.length : Int) ≤ k := by omega
    simp only [↓vsd, vsn, gW, qd, qv, ev, pick, argE, zipE, ne_eq, eq_self, forall_const, implies_true, if_true, if_false, reduceIte, reduceCtorEq, Nat.reduceEqDiff, Nat.reduceAdd, Nat.reduceLT, ↓us_leqStringS, r_leqStringS, g1.facts, g2.facts, g1.at1 [] hlt, g2.at1 [] hlt2, hltI, hltJ]
    exact ⟨by omega, by omega, fun hne => ⟨hx, by simp [ne_at k hne]⟩, fun he2 => ⟨inR_i64 (by omega), UpTo.next hlt ⟨rfl, eq_take heq hlt hlt2 he2, dr hx⟩⟩⟩
  · obtain rfl : k = l1.length := by omega
    have hltI : ¬ (l1.length : Int) < l1.length := by omega
    simp only [↓vsd, vsn, gW, qd, qv, ev, pick, argE, zipE, ne_eq, eq_self, forall_const, implies_true, if_true, if_false, reduceIte, reduceCtorEq, Nat.reduceEqDiff, Nat.reduceAdd, Nat.reduceLT, ↓us_leqStringS, r_leqStringS, g1.facts, hltI]
    exact ⟨hx, by simp [eq_len heq (by omega)]⟩
/-- The digits of a number above 0; none for 0. -/
def digs (k : Nat) : List UInt8 := if h : k = 0 then [] else digs (k / 10) ++ [UInt8.ofNat (48 + k % 10)]
termination_by k
decreasing_by omega
/-- A mark: the letter m and the number. -/
def markL (k : Nat) : List UInt8 := if k = 0 then [109, 48] else 109 :: digs k
theorem digs_step (k : Nat) (h : 0 < k) : digs k = digs (k / 10) ++ [UInt8.ofNat (48 + k % 10)] := by
  rw [digs, dif_neg (by omega)]
theorem lmarkText_ok (k : Nat) (hk : k < 1000000000000) (w : World) : Fn 68 [.int .i64 k] w (fun v _ => v = S (markL k)) := by
  (refine callsV_of mix Try.func68 c_lmarkText ?_; simp only [↓vsd, vsn, gW, qd, qv, ev, pick, argE, zipE, ne_eq, eq_self, forall_const, implies_true, if_true, if_false, reduceIte, reduceCtorEq, Nat.reduceEqDiff, Nat.reduceAdd, Nat.reduceLT, ↓us_lmarkText, r_lmarkText])
  refine ⟨fun h => ⟨Ext.refl _, by rw [markL, if_pos (by omega)]⟩, fun h => ?_⟩
  refine m_loop (fun m vs w' => ∃ out : List UInt8, vs = [.int .i64 m, S out] ∧ m ≤ k ∧ out.length + m ≤ k + 20 ∧ digs m ++ out = digs k ∧ Ext w w') k ⟨[], rfl, Nat.le_refl _, by simp, by simp, Ext.refl _⟩ ?_
  rintro m vs w' ⟨out, rfl, hm, hlen, hd, hx⟩
  simp only [↓vsd, vsn, gW, qd, qv, ev, pick, argE, zipE, ne_eq, eq_self, forall_const, implies_true, if_true, if_false, reduceIte, reduceCtorEq, Nat.reduceEqDiff, Nat.reduceAdd, Nat.reduceLT, ↓us_lmarkText, r_lmarkText]
  refine ⟨fun hm0 => ⟨by decide, inR_i64 (by omega), inR_u8 (by omega), m_bsl (one_el rfl) ?_⟩, fun hm0 => ?_⟩
  · rintro b w1 hb hblk hx1 hs1
    simp only [↓vsd, vsn, gW, qd, qv, ev, pick, argE, zipE, ne_eq, eq_self, forall_const, implies_true, if_true, if_false, reduceIte, reduceCtorEq, Nat.reduceEqDiff, Nat.reduceAdd, Nat.reduceLT, ↓us_lmarkText, r_lmarkText]
    refine m_b2s (l := [UInt8.ofNat (48 + m % 10)]) (Sq.one (f := fU) fU_len hblk (by simp [fU, UInt8.toNat_ofNat', cells_int]; omega)) ?_
    simp only [↓vsd, vsn, gW, qd, qv, ev, pick, argE, zipE, ne_eq, eq_self, forall_const, implies_true, if_true, if_false, reduceIte, reduceCtorEq, Nat.reduceEqDiff, Nat.reduceAdd, Nat.reduceLT, ↓us_lmarkText, r_lmarkText]
    refine ⟨by omega, ⟨by decide, inR_i64 (by omega)⟩, m / 10, by omega, _, ⟨rfl, rfl⟩, by omega, by simp only [List.length_cons]; omega, ?_, hx.trans hx1⟩
    rw [← hd, digs_step m (by omega), List.append_assoc]
    rfl
  · obtain rfl : m = 0 := by omega
    refine ⟨by omega, hx, ?_⟩
    rw [markL, if_neg (by omega), ← hd, digs, dif_pos rfl]; rfl
/-- n marks from k on. -/
def marksL (k n : Nat) : List (List UInt8) := (List.range n).map fun i => markL (k + i)
theorem marksL_len (k n : Nat) : (marksL k n).length = n := by simp [marksL]
theorem marksL_get (k n i : Nat) (h : i < n) : (marksL k n).getD i [] = markL (k + i) := by
  unfold marksL
  rw [List.getD_eq_getElem?_getD, List.getElem?_map, List.getElem?_range h]; rfl
theorem marksL_succ (k n : Nat) : marksL k (n + 1) = marksL k n ++ [markL (k + n)] := by simp [marksL, List.range_succ]
theorem grown_refl (w : World) (row : Option Nat) : w.grownBy w row := ⟨rfl, rfl, rfl, Nat.le_refl _, fun _ _ _ => rfl⟩
theorem grown_trans {a b c : World} {row : Option Nat} (h : a.grownBy b row) (k : b.grownBy c row) : a.grownBy c row :=
  ⟨k.os.trans h.os, k.tape.trans h.tape, k.output.trans h.output, Nat.le_trans h.size k.size, fun i hi hr => (k.block i (Nat.lt_of_lt_of_le hi h.size) hr).trans (h.block i hi hr)⟩
theorem grown_ext {a b : World} (row : Option Nat) (h : Ext a b) : a.grownBy b row := ⟨h.os, h.tape, h.output, h.size, fun _ hi _ => h.block hi⟩
theorem set_marks (l : List (List UInt8)) (k i : Nat) (h : i < l.length) : (marksL k i ++ l.drop i).set i (markL (k + i)) = marksL k (i + 1) ++ l.drop (i + 1) := by
  rw [List.set_append_right _ _ (by rw [marksL_len]; omega), marksL_len, Nat.sub_self, List.drop_eq_getElem_cons h, List.set_cons_zero, marksL_succ, List.append_assoc]; rfl
theorem lmarkStringS_ok (v : Value) (l : List (List UInt8)) (B k : Nat) (hl : l.length ≤ 1000000000) (hk : k ≤ 1000000000) (w : World) (h : Own fS 1 9 B w v l) :
    CallsV Try.prog 23 [v, .int .i64 k] w (fun v' w' => v' = .int .i64 (k + l.length : Nat) ∧ Own fS 1 9 B w' v (marksL k l.length) ∧ w.grownBy w' v.ownBlock) := by
  (refine callsV_of mix Try.func23 c_lmarkStringS ?_; simp only [↓vsd, vsn, gW, qd, qv, ev, pick, argE, zipE, ne_eq, eq_self, forall_const, implies_true, if_true, if_false, reduceIte, reduceCtorEq, Nat.reduceEqDiff, Nat.reduceAdd, Nat.reduceLT, ↓us_lmarkStringS, r_lmarkStringS])
  refine m_upto l.length (fun i vs w' => vs = [.int .i64 (k + i : Nat), .int .i64 i] ∧ Own fS 1 9 B w' v (marksL k i ++ l.drop i) ∧ w.grownBy w' v.ownBlock) ⟨rfl, h.to (by simp [marksL]), grown_refl _ _⟩ ?_
  rintro i vs w1 hi ⟨rfl, ho, hg⟩
  have hlen : (marksL k i ++ l.drop i).length = l.length := by simp [marksL_len]; omega
  by_cases hlt : i < l.length
  · have hltI : (i : Int) < l.length := by omega
    have hltJ : ¬ (l.length : Int) ≤ i := by omega
    simp only [↓vsd, vsn, gW, qd, qv, ev, pick, argE, zipE, ne_eq, eq_self, forall_const, implies_true, if_true, if_false, reduceIte, reduceCtorEq, Nat.reduceEqDiff, Nat.reduceAdd, Nat.reduceLT, ↓us_lmarkStringS, r_lmarkStringS, ho.sq.facts, hlen, hltI, hltJ]
    refine m_call (lmarkText_ok (k + i) (by omega) _) ?_
    rintro _ w2 hx2 rfl
    have ho2 := ho.ext hx2
    simp only [↓vsd, vsn, gW, qd, qv, ev, pick, argE, zipE, ne_eq, eq_self, forall_const, implies_true, if_true, if_false, reduceIte, reduceCtorEq, Nat.reduceEqDiff, Nat.reduceAdd, Nat.reduceLT, ↓us_lmarkStringS, r_lmarkStringS, ho2.sq.facts, hlen, hltI, hltJ]
    refine ⟨by omega, m_set1 i (markL (k + i)) ho2 rfl (by omega) rfl fS_one ?_⟩
    rintro w3 ho3 hg3 _
    simp only [↓vsd, vsn, gW, qd, qv, ev, pick, argE, zipE, ne_eq, eq_self, forall_const, implies_true, if_true, if_false, reduceIte, reduceCtorEq, Nat.reduceEqDiff, Nat.reduceAdd, Nat.reduceLT, ↓us_lmarkStringS, r_lmarkStringS]
    exact ⟨inR_i64 (by omega), inR_i64 (by omega), UpTo.next hlt ⟨rfl, ho3.to (set_marks l k i hlt), grown_trans (grown_trans hg (grown_ext _ hx2)) hg3⟩⟩
  · obtain rfl : i = l.length := by omega
    have hltI : ¬ (l.length : Int) < l.length := by omega
    simp only [↓vsd, vsn, gW, qd, qv, ev, pick, argE, zipE, ne_eq, eq_self, forall_const, implies_true, if_true, if_false, reduceIte, reduceCtorEq, Nat.reduceEqDiff, Nat.reduceAdd, Nat.reduceLT, ↓us_lmarkStringS, r_lmarkStringS, ho.sq.facts, hlen, hltI]
    exact ⟨ho.to (by simp), hg⟩
theorem lheldStringS_ok (v : Value) (n k : Nat) (hl : n ≤ 1000000000) (hk : k ≤ 1000000000) (w : World) (h : Sq fS 1 w v (marksL k n)) :
    Fn 24 [v, .int .i64 k] w (fun v' w' => v' = .int .i64 (k + n : Nat)) := by
  (refine callsV_of mix Try.func24 c_lheldStringS ?_; simp only [↓vsd, vsn, gW, qd, qv, ev, pick, argE, zipE, ne_eq, eq_self, forall_const, implies_true, if_true, if_false, reduceIte, reduceCtorEq, Nat.reduceEqDiff, Nat.reduceAdd, Nat.reduceLT, ↓us_lheldStringS, r_lheldStringS])
  refine m_upto n (fun i vs w' => vs = [.int .i64 (k + i : Nat), .int .i64 i] ∧ Ext w w') ⟨rfl, Ext.refl _⟩ ?_
  rintro i vs w1 hi ⟨rfl, hx⟩
  have hq := h.ext hx
  by_cases hlt : i < n
  · have hltI : (i : Int) < n := by omega
    have hltJ : ¬ (n : Int) ≤ i := by omega
    have hlt' : i < (marksL k n).length := by rw [marksL_len]; exact hlt
    have ha := hq.at1 [] hlt'
    have hgt := marksL_get k n i hlt
    simp only [↓vsd, vsn, gW, qd, qv, ev, pick, argE, zipE, ne_eq, eq_self, forall_const, implies_true, if_true, if_false, reduceIte, reduceCtorEq, Nat.reduceEqDiff, Nat.reduceAdd, Nat.reduceLT, ↓us_lheldStringS, r_lheldStringS, hq.facts, marksL_len, hltI, hltJ, ha, hgt]
    refine ⟨by omega, m_call (lmarkText_ok (k + i) (by omega) _) ?_⟩
    rintro _ w2 hx2 rfl
    simp only [↓vsd, vsn, gW, qd, qv, ev, pick, argE, zipE, ne_eq, eq_self, forall_const, implies_true, if_true, if_false, reduceIte, reduceCtorEq, Nat.reduceEqDiff, Nat.reduceAdd, Nat.reduceLT, ↓us_lheldStringS, r_lheldStringS]
    exact ⟨inR_i64 (by omega), inR_i64 (by omega), UpTo.next hlt ⟨rfl, hx.trans (ud hx2)⟩⟩
  · obtain rfl : i = n := by omega
    have hltI : ¬ (i : Int) < i := by omega
    simp only [↓vsd, vsn, gW, qd, qv, ev, pick, argE, zipE, ne_eq, eq_self, forall_const, implies_true, if_true, if_false, reduceIte, reduceCtorEq, Nat.reduceEqDiff, Nat.reduceAdd, Nat.reduceLT, ↓us_lheldStringS, r_lheldStringS, hq.facts, marksL_len, hltI]
    exact hx
def IsRows (l : List (List UInt8)) : Prop := (∀ r ∈ l, IsRow r ∧ r.length = (l.getD 0 []).length) ∧ l.length ≤ 800
instance (l : List (List UInt8)) : Decidable (IsRows l) := by unfold IsRows; infer_instance
theorem iisRowOf_ok (n : Int) (l : List UInt8) (w : World) : Fn 112 [.int .i64 n, S l] w (fun v _ => v = .bool (decide ((l.length : Int) = n) && decide (IsRow l))) := by
  (refine callsV_of mix Try.func112 c_iisRowOf ?_; simp only [↓vsd, vsn, gW, qd, qv, ev, pick, argE, zipE, ne_eq, eq_self, forall_const, implies_true, if_true, if_false, reduceIte, reduceCtorEq, Nat.reduceEqDiff, Nat.reduceAdd, Nat.reduceLT, ↓us_iisRowOf, r_iisRowOf])
  refine ⟨fun he => m_call (iGoodRow_ok _ _) ?_, fun hne => ⟨Ext.refl _, by simp [hne]⟩⟩
  rintro _ w1 hx rfl
  simp only [↓vsd, vsn, gW, qd, qv, ev, pick, argE, zipE, ne_eq, eq_self, forall_const, implies_true, if_true, if_false, reduceIte, reduceCtorEq, Nat.reduceEqDiff, Nat.reduceAdd, Nat.reduceLT, ↓us_iisRowOf, r_iisRowOf]
  exact hx
end Go.Proofs.Ytnhealghpfjdcaa
