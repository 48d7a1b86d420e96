/-
  Calls: what a call does to a lead; a law's input of calls.
  Conditions: none.
-/
import Derived.Test.YtpnopboffalfnaaA11
import Derived.Test.YtpnopboffalfnaaVw
set_option linter.unusedSimpArgs false
set_option linter.unusedVariables false
set_option linter.defProp false
namespace Go.Proofs.Ytpnopboffalfnaa
open Go Go.RowKit
section
variable (P : Program) (k : KT) (e : Env) (w : World)
abbrev b245_1 : X := (.seq (.reg [2] (.c (.q 3 [] (.mv (.t 0))) (.c (.q 4 [] (.bin .eql (.t 3) (.s [112]))) (.c (.q 5 [] (.mv (.t 4))) (.c (.q 6 [(5, false)] (.mv (.t 0))) (.c (.q 7 [(5, false)] (.bin .eql (.t 6) (.s [98]))) (.c (.q 8 [] (.pick (.t 5) (.c (.bool true)) (.t 7))) (.c (.q 9 [] (.mv (.t 8))) (.c (.q 10 [(9, false)] (.mv (.t 0))) (.c (.q 11 [(9, false)] (.bin .eql (.t 10) (.s [115]))) (.c (.q 12 [] (.pick (.t 9) (.c (.bool true)) (.t 11))) (.c (.q 2 [] (.mv (.t 12))) .nil)))))))))))) .ret)
def t245_1 := b245_1
theorem u245_1 : vcK P t245_1 k e w = vcK P b245_1 k e w := rfl
abbrev b245_0 : X := (.seq (.reg [0] (.c (.q 2 [] (.mv (.c (.bool false)))) .nil)) t245_1)
def x_iisCall := b245_0
theorem u245_0 : vcK P x_iisCall k e w = vcK P b245_0 k e w := rfl
def r_iisCall : List XO := [(.mv (.t 2))]
theorem c_iisCall : convF Try.prog [169, 170, 207, 208, 210, 227, 232, 233, 255, 259, 268, 269, 270, 280, 281, 296, 299, 306, 307, 309] Try.f245 [([0], []), ([2], [])] = some (x_iisCall, r_iisCall) := by kernel_rfl
def us_iisCall := aI @u245_0 @u245_1
abbrev b256_1 : X := (.seq (.reg [2] (.c (.q 3 [] (.mv (.t 0))) (.c (.q 4 [] (.bin .eql (.t 3) (.s [112]))) (.c (.q 5 [] (.mv (.t 4))) (.c (.q 6 [(5, false)] (.mv (.t 0))) (.c (.q 7 [(5, false)] (.bin .eql (.t 6) (.s [98]))) (.c (.q 8 [] (.pick (.t 5) (.c (.bool true)) (.t 7))) (.c (.q 9 [] (.mv (.t 8))) (.c (.q 10 [(9, false)] (.mv (.t 0))) (.c (.q 11 [(9, false)] (.bin .eql (.t 10) (.s [115]))) (.c (.q 12 [] (.pick (.t 9) (.c (.bool true)) (.t 11))) (.c (.q 2 [] (.mv (.t 12))) .nil)))))))))))) .ret)
def t256_1 := b256_1
theorem u256_1 : vcK P t256_1 k e w = vcK P b256_1 k e w := rfl
abbrev b256_0 : X := (.seq (.reg [0] (.c (.q 2 [] (.mv (.c (.bool false)))) .nil)) t256_1)
def x_sl8Call := b256_0
theorem u256_0 : vcK P x_sl8Call k e w = vcK P b256_0 k e w := rfl
def r_sl8Call : List XO := [(.mv (.t 2))]
theorem c_sl8Call : convF Try.prog [169, 170, 207, 208, 210, 227, 232, 233, 255, 259, 268, 269, 270, 280, 281, 296, 299, 306, 307, 309] Try.f256 [([0], []), ([2], [])] = some (x_sl8Call, r_sl8Call) := by kernel_rfl
def us_sl8Call := aI @u256_0 @u256_1
abbrev b131_1 : X := (.seq (.reg [4] (.c (.q 5 [] (.lda 3 (.t 2))) (.c (.e (some 6) [] (.call false 113 [(.t 5)])) (.c (.q 7 [] (.mv (.t 6))) (.c (.q 8 [(7, true)] (.fa 1 (.t 2))) (.c (.q 9 [(7, true)] (.ld (.t 8))) (.c (.q 10 [(7, true)] (.fa 0 (.t 3))) (.c (.q 11 [(7, true)] (.ld (.t 10))) (.c (.e (some 12) [(7, true)] (.call false 237 [(.t 9), (.t 11)])) (.c (.q 13 [] (.pick (.t 7) (.t 12) (.c (.bool false)))) (.c (.q 14 [] (.mv (.t 13))) (.c (.q 15 [(14, true)] (.fa 1 (.t 2))) (.c (.q 16 [(14, true)] (.ld (.t 15))) (.c (.q 17 [(14, true)] (.fa 1 (.t 3))) (.c (.q 18 [(14, true)] (.ld (.t 17))) (.c (.e (some 19) [(14, true)] (.call false 237 [(.t 16), (.t 18)])) (.c (.q 20 [] (.pick (.t 14) (.t 19) (.c (.bool false)))) (.c (.q 4 [] (.mv (.t 20))) .nil)))))))))))))))))) .ret)
def t131_1 := b131_1
theorem u131_1 : vcK P t131_1 k e w = vcK P b131_1 k e w := rfl
abbrev b131_0 : X := (.seq (.reg [2, 3] (.c (.e (some 2) [] (.box 41 (.t 0))) (.c (.e (some 3) [] (.box 32 (.t 1))) (.c (.q 4 [] (.mv (.c (.bool false)))) .nil)))) t131_1)
def x_iGoodCalls := b131_0
theorem u131_0 : vcK P x_iGoodCalls k e w = vcK P b131_0 k e w := rfl
def r_iGoodCalls : List XO := [(.mv (.t 4))]
theorem c_iGoodCalls : convF Try.prog [169, 170, 207, 208, 210, 227, 232, 233, 255, 259, 268, 269, 270, 280, 281, 296, 299, 306, 307, 309] Try.f131 [([2, 3], []), ([4], [])] = some (x_iGoodCalls, r_iGoodCalls) := by kernel_rfl
def us_iGoodCalls := aI @u131_0 @u131_1
abbrev b253_1 : X := (.seq (.reg [4] (.c (.q 5 [] (.lda 3 (.t 2))) (.c (.e (some 6) [] (.call false 166 [(.t 5)])) (.c (.q 7 [] (.mv (.t 6))) (.c (.q 8 [(7, true)] (.fa 1 (.t 2))) (.c (.q 9 [(7, true)] (.ld (.t 8))) (.c (.q 10 [(7, true)] (.fa 0 (.t 3))) (.c (.q 11 [(7, true)] (.ld (.t 10))) (.c (.e (some 12) [(7, true)] (.call false 224 [(.t 9), (.t 11)])) (.c (.q 13 [] (.pick (.t 7) (.t 12) (.c (.bool false)))) (.c (.q 14 [] (.mv (.t 13))) (.c (.q 15 [(14, true)] (.fa 1 (.t 2))) (.c (.q 16 [(14, true)] (.ld (.t 15))) (.c (.q 17 [(14, true)] (.fa 1 (.t 3))) (.c (.q 18 [(14, true)] (.ld (.t 17))) (.c (.e (some 19) [(14, true)] (.call false 224 [(.t 16), (.t 18)])) (.c (.q 20 [] (.pick (.t 14) (.t 19) (.c (.bool false)))) (.c (.q 4 [] (.mv (.t 20))) .nil)))))))))))))))))) .ret)
def t253_1 := b253_1
theorem u253_1 : vcK P t253_1 k e w = vcK P b253_1 k e w := rfl
abbrev b253_0 : X := (.seq (.reg [2, 3] (.c (.e (some 2) [] (.box 41 (.t 0))) (.c (.e (some 3) [] (.box 32 (.t 1))) (.c (.q 4 [] (.mv (.c (.bool false)))) .nil)))) t253_1)
def x_sl8Good := b253_0
theorem u253_0 : vcK P x_sl8Good k e w = vcK P b253_0 k e w := rfl
def r_sl8Good : List XO := [(.mv (.t 4))]
theorem c_sl8Good : convF Try.prog [169, 170, 207, 208, 210, 227, 232, 233, 255, 259, 268, 269, 270, 280, 281, 296, 299, 306, 307, 309] Try.f253 [([2, 3], []), ([4], [])] = some (x_sl8Good, r_sl8Good) := by kernel_rfl
def us_sl8Good := aI @u253_0 @u253_1
abbrev b219_1 : X := (.seq (.reg [6] (.c (.q 7 [] (.lda 3 (.t 3))) (.c (.q 8 [] (.lda 2 (.t 4))) (.c (.e (some 9) [] (.call false 253 [(.t 7), (.t 8)])) (.c (.q 10 [] (.mv (.t 9))) (.c (.q 11 [(10, true)] (.mv (.t 2))) (.c (.e (some 12) [(10, true)] (.call false 256 [(.t 11)])) (.c (.q 13 [] (.pick (.t 10) (.t 12) (.c (.bool false)))) (.c (.q 6 [] (.mv (.t 13))) .nil))))))))) .ret)
def t219_1 := b219_1
theorem u219_1 : vcK P t219_1 k e w = vcK P b219_1 k e w := rfl
abbrev b219_0 : X := (.seq (.reg [2, 3, 4] (.c (.e (some 3) [] (.box 41 (.t 0))) (.c (.e (some 4) [] (.box 32 (.t 1))) (.c (.q 6 [] (.mv (.c (.bool false)))) .nil)))) t219_1)
def x_sl8Asked := b219_0
theorem u219_0 : vcK P x_sl8Asked k e w = vcK P b219_0 k e w := rfl
def r_sl8Asked : List XO := [(.mv (.t 6))]
theorem c_sl8Asked : convF Try.prog [169, 170, 207, 208, 210, 227, 232, 233, 255, 259, 268, 269, 270, 280, 281, 296, 299, 306, 307, 309] Try.f219 [([2, 3, 4], []), ([6], [])] = some (x_sl8Asked, r_sl8Asked) := by kernel_rfl
def us_sl8Asked := aI @u219_0 @u219_1
abbrev b247_1 : X := (.cond (.t 12) (.seq (.reg [6] (.c (.q 14 [] (.fa 1 (.t 4))) (.c (.q 15 [] (.ld (.t 14))) (.c (.q 6 [] (.mv (.t 15))) .nil)))) .ret) .skip)
def t247_1 := b247_1
theorem u247_1 : vcK P t247_1 k e w = vcK P b247_1 k e w := rfl
abbrev b247_2 : X := (.cond (.t 8) (.seq (.reg [6] (.c (.q 10 [] (.fa 0 (.t 4))) (.c (.q 11 [] (.ld (.t 10))) (.c (.q 6 [] (.mv (.t 11))) .nil)))) .ret) (.seq (.reg [3, 4, 12] (.c (.q 13 [] (.bin .eql (.t 7) (.s [115]))) (.c (.q 12 [] (.mv (.t 13))) .nil))) t247_1))
def t247_2 := b247_2
theorem u247_2 : vcK P t247_2 k e w = vcK P b247_2 k e w := rfl
abbrev b247_3 : X := (.blk 0 (.seq (.reg [3, 4, 7, 8] (.c (.q 9 [] (.bin .eql (.t 7) (.s [98]))) (.c (.q 8 [] (.mv (.t 9))) .nil))) t247_2))
def t247_3 := b247_3
theorem u247_3 : vcK P t247_3 k e w = vcK P b247_3 k e w := rfl
abbrev b247_4 : X := (.seq (.reg [6] (.c (.q 16 [] (.fa 2 (.t 3))) (.c (.q 17 [] (.ld (.t 16))) (.c (.q 18 [] (.fa 2 (.t 3))) (.c (.q 19 [] (.ld (.t 18))) (.c (.q 20 [] (.lens (.t 19))) (.c (.q 21 [] (.bin .sub (.t 20) (.c (.int .i64 1)))) (.c (.q 22 [] (.ia 1 (.t 17) (.t 21))) (.c (.q 23 [] (.ld (.t 22))) (.c (.q 6 [] (.mv (.t 23))) .nil)))))))))) .ret)
def t247_4 := b247_4
theorem u247_4 : vcK P t247_4 k e w = vcK P b247_4 k e w := rfl
abbrev b247_5 : X := (.seq (.seq (.reg [3, 4, 7] (.c (.q 7 [] (.mv (.t 2))) .nil)) t247_3) t247_4)
def t247_5 := b247_5
theorem u247_5 : vcK P t247_5 k e w = vcK P b247_5 k e w := rfl
abbrev b247_0 : X := (.seq (.reg [2, 3, 4] (.c (.e (some 3) [] (.box 41 (.t 0))) (.c (.e (some 4) [] (.box 32 (.t 1))) (.c (.q 6 [] (.mv (.s []))) .nil)))) t247_5)
def x_sl8Change := b247_0
theorem u247_0 : vcK P x_sl8Change k e w = vcK P b247_0 k e w := rfl
def r_sl8Change : List XO := [(.mv (.t 6))]
theorem c_sl8Change : convF Try.prog [169, 170, 207, 208, 210, 227, 232, 233, 255, 259, 268, 269, 270, 280, 281, 296, 299, 306, 307, 309] Try.f247 [([2, 3, 4], []), ([3, 4, 7], []), ([3, 4, 7, 8], []), ([6], []), ([3, 4, 12], []), ([6], []), ([6], [])] = some (x_sl8Change, r_sl8Change) := by kernel_rfl
def us_sl8Change := aI @u247_0 (aI @u247_1 (aI @u247_2 (aI @u247_3 (aI @u247_4 @u247_5))))
abbrev b220_1 : X := (.seq (.reg [6] (.c (.q 25 [] (.mv (.t 9))) (.c (.q 26 [] (.lda 3 (.t 3))) (.c (.q 27 [] (.lda 2 (.t 4))) (.c (.q 28 [] (.mv (.t 2))) (.c (.e (some 29) [] (.call false 247 [(.t 26), (.t 27), (.t 28)])) (.c (.e (some 30) [] (.call false 225 [(.t 25), (.t 29)])) (.c (.q 6 [] (.mv (.t 30))) .nil)))))))) .ret)
def t220_1 := b220_1
theorem u220_1 : vcK P t220_1 k e w = vcK P b220_1 k e w := rfl
abbrev b220_2 : X := (.seq (.drw [2, 3, 4, 9] (.c (.q 15 [] (.fa 2 (.t 3))) (.c (.q 16 [] (.ld (.t 15))) (.c (.q 17 [] (.mv (.t 7))) (.c (.q 18 [] (.ssl 1 (.t 16) none (some (.t 17)))) (.c (.q 19 [] (.fa 1 (.t 3))) (.c (.q 20 [] (.ld (.t 19))) (.c (.e (some 21) [] (.call false 165 [(.t 20)])) (.c (.e (some 22) [] (.call false 234 [(.t 18), (.t 21)])) (.c (.q 14 [] (.mv (.t 22))) (.c (.q 23 [] (.ext 0 (.t 14))) (.c (.q 24 [] (.ext 1 (.t 14))) (.c (.q 8 [] (.mv (.t 23))) (.c (.q 9 [] (.mv (.t 24))) .nil)))))))))))))) t220_1)
def t220_2 := b220_2
theorem u220_2 : vcK P t220_2 k e w = vcK P b220_2 k e w := rfl
abbrev b220_3 : X := (.seq (.reg [2, 3, 4, 7] (.c (.q 10 [] (.fa 2 (.t 3))) (.c (.q 11 [] (.ld (.t 10))) (.c (.q 12 [] (.lens (.t 11))) (.c (.q 13 [] (.bin .sub (.t 12) (.c (.int .i64 1)))) (.c (.q 7 [] (.mv (.t 13))) .nil)))))) t220_2)
def t220_3 := b220_3
theorem u220_3 : vcK P t220_3 k e w = vcK P b220_3 k e w := rfl
abbrev b220_0 : X := (.seq (.reg [2, 3, 4] (.c (.e (some 3) [] (.box 41 (.t 0))) (.c (.e (some 4) [] (.box 32 (.t 1))) (.c (.q 6 [] (.mv (.s []))) .nil)))) t220_3)
def x_sl8Head := b220_0
theorem u220_0 : vcK P x_sl8Head k e w = vcK P b220_0 k e w := rfl
def r_sl8Head : List XO := [(.mv (.t 6))]
theorem c_sl8Head : convF Try.prog [169, 170, 207, 208, 210, 227, 232, 233, 255, 259, 268, 269, 270, 280, 281, 296, 299, 306, 307, 309] Try.f220 [([2, 3, 4], []), ([2, 3, 4, 7], []), ([2, 3, 4, 9], []), ([6], [])] = some (x_sl8Head, r_sl8Head) := by kernel_rfl
def us_sl8Head := aI @u220_0 (aI @u220_1 (aI @u220_2 @u220_3))
abbrev b16_1 : X := (.cond (.t 11) (.seq (.reg [4] (.c (.q 4 [] (.mv (.c (.int .i64 (-1))))) .nil)) .ret) .skip)
def t16_1 := b16_1
theorem u16_1 : vcK P t16_1 k e w = vcK P b16_1 k e w := rfl
abbrev b16_2 : X := (.cond (.t 18) (.seq (.reg [4] (.c (.q 4 [] (.mv (.c (.int .i64 (-1))))) .nil)) .ret) .skip)
def t16_2 := b16_2
theorem u16_2 : vcK P t16_2 k e w = vcK P b16_2 k e w := rfl
abbrev b16_3 : X := (.seq (.reg [4] (.c (.q 19 [] (.mv (.t 1))) (.c (.q 4 [] (.mv (.t 19))) .nil))) .ret)
def t16_3 := b16_3
theorem u16_3 : vcK P t16_3 k e w = vcK P b16_3 k e w := rfl
abbrev b16_4 : X := (.seq (.seq (.reg [1, 18] (.c (.q 17 [] (.mv (.t 1))) (.c (.q 18 [] (.bin .lss (.t 17) (.c (.int .i64 0)))) .nil))) t16_2) t16_3)
def t16_4 := b16_4
theorem u16_4 : vcK P t16_4 k e w = vcK P b16_4 k e w := rfl
abbrev b16_5 : X := (.seq (.reg [1] (.c (.q 12 [] (.mv (.t 1))) (.c (.q 13 [] (.fa 1 (.t 2))) (.c (.q 14 [] (.ld (.t 13))) (.c (.q 15 [] (.len (.t 14))) (.c (.q 16 [] (.bin .sub (.t 12) (.t 15))) (.c (.q 1 [] (.mv (.t 16))) .nil))))))) t16_4)
def t16_5 := b16_5
theorem u16_5 : vcK P t16_5 k e w = vcK P b16_5 k e w := rfl
abbrev b16_6 : X := (.seq (.seq (.reg [1, 2, 11] (.c (.q 10 [] (.mv (.t 1))) (.c (.q 11 [] (.bin .lss (.t 10) (.c (.int .i64 0)))) .nil))) t16_1) t16_5)
def t16_6 := b16_6
theorem u16_6 : vcK P t16_6 k e w = vcK P b16_6 k e w := rfl
abbrev b16_7 : X := (.seq (.reg [1, 2] (.c (.q 5 [] (.mv (.t 1))) (.c (.q 6 [] (.fa 0 (.t 2))) (.c (.q 7 [] (.ld (.t 6))) (.c (.q 8 [] (.len (.t 7))) (.c (.q 9 [] (.bin .sub (.t 5) (.t 8))) (.c (.q 1 [] (.mv (.t 9))) .nil))))))) t16_6)
def t16_7 := b16_7
theorem u16_7 : vcK P t16_7 k e w = vcK P b16_7 k e w := rfl
abbrev b16_0 : X := (.seq (.reg [1, 2] (.c (.e (some 2) [] (.box 24 (.t 0))) (.c (.q 4 [] (.mv (.c (.int .i64 0)))) .nil))) t16_7)
def x_lszCalls := b16_0
theorem u16_0 : vcK P x_lszCalls k e w = vcK P b16_0 k e w := rfl
def r_lszCalls : List XO := [(.mv (.t 4))]
theorem c_lszCalls : convF Try.prog [169, 170, 207, 208, 210, 227, 232, 233, 255, 259, 268, 269, 270, 280, 281, 296, 299, 306, 307, 309] Try.f16 [([1, 2], []), ([1, 2], []), ([1, 2, 11], []), ([4], []), ([1], []), ([1, 18], []), ([4], []), ([4], [])] = some (x_lszCalls, r_lszCalls) := by kernel_rfl
def us_lszCalls := aI @u16_0 (aI @u16_1 (aI @u16_2 (aI @u16_3 (aI @u16_4 (aI @u16_5 (aI @u16_6 @u16_7))))))
abbrev b19_1 : X := (.seq (.reg [2] (.c (.q 10 [] (.lda 2 (.t 3))) (.c (.e none [] (.st 2 (.t 2) (.t 10))) .nil))) .ret)
def t19_1 := b19_1
theorem u19_1 : vcK P t19_1 k e w = vcK P b19_1 k e w := rfl
abbrev b19_2 : X := (.seq (.reg [2, 3] (.c (.q 7 [] (.fa 1 (.t 1))) (.c (.q 8 [] (.ld (.t 7))) (.c (.q 9 [] (.fa 1 (.t 3))) (.c (.e none [] (.st 1 (.t 9) (.t 8))) .nil))))) t19_1)
def t19_2 := b19_2
theorem u19_2 : vcK P t19_2 k e w = vcK P b19_2 k e w := rfl
abbrev b19_3 : X := (.seq (.reg [1, 2, 3] (.c (.q 4 [] (.fa 0 (.t 1))) (.c (.q 5 [] (.ld (.t 4))) (.c (.q 6 [] (.fa 0 (.t 3))) (.c (.e none [] (.st 1 (.t 6) (.t 5))) .nil))))) t19_2)
def t19_3 := b19_3
theorem u19_3 : vcK P t19_3 k e w = vcK P b19_3 k e w := rfl
abbrev b19_4 : X := (.seq (.reg [1, 2, 3] (.c (.e (some 3) [] (.al 32 [(S []), (S [])])) .nil)) t19_3)
def t19_4 := b19_4
theorem u19_4 : vcK P t19_4 k e w = vcK P b19_4 k e w := rfl
abbrev b19_0 : X := (.seq (.reg [1, 2] (.c (.e (some 1) [] (.box 24 (.t 0))) (.c (.e (some 2) [] (.al 32 [(S []), (S [])])) .nil))) t19_4)
def x_ltoCalls := b19_0
theorem u19_0 : vcK P x_ltoCalls k e w = vcK P b19_0 k e w := rfl
def r_ltoCalls : List XO := [(.lda 2 (.t 2))]
theorem c_ltoCalls : convF Try.prog [169, 170, 207, 208, 210, 227, 232, 233, 255, 259, 268, 269, 270, 280, 281, 296, 299, 306, 307, 309] Try.f19 [([1, 2], []), ([1, 2, 3], []), ([1, 2, 3], []), ([2, 3], []), ([2], [])] = some (x_ltoCalls, r_ltoCalls) := by kernel_rfl
def us_ltoCalls := aI @u19_0 (aI @u19_1 (aI @u19_2 (aI @u19_3 @u19_4)))
abbrev b54_1 : X := (.cond (.t 10) (.seq (.reg [4] (.c (.q 4 [] (.mv (.c (.bool false)))) .nil)) .ret) .skip)
def t54_1 := b54_1
theorem u54_1 : vcK P t54_1 k e w = vcK P b54_1 k e w := rfl
abbrev b54_2 : X := (.cond (.t 14) .skip (.exit 0))
def t54_2 := b54_2
theorem u54_2 : vcK P t54_2 k e w = vcK P b54_2 k e w := rfl
abbrev b54_3 : X := (.cond (.t 25) (.seq (.reg [4] (.c (.q 4 [] (.mv (.c (.bool false)))) .nil)) .ret) .skip)
def t54_3 := b54_3
theorem u54_3 : vcK P t54_3 k e w = vcK P b54_3 k e w := rfl
abbrev b54_4 : X := (.reg [0, 1, 5] (.c (.q 15 [] (.mv (.t 5))) (.c (.q 16 [] (.bin .add (.t 15) (.c (.int .i64 1)))) (.c (.q 5 [] (.mv (.t 16))) .nil))))
def t54_4 := b54_4
theorem u54_4 : vcK P t54_4 k e w = vcK P b54_4 k e w := rfl
abbrev b54_5 : X := (.seq (.blk 1 (.seq (.drw [0, 1, 5, 25] (.c (.q 17 [] (.mv (.t 0))) (.c (.q 18 [] (.mv (.t 5))) (.c (.q 19 [] (.ia 1 (.t 17) (.t 18))) (.c (.q 20 [] (.ld (.t 19))) (.c (.q 21 [] (.mv (.t 1))) (.c (.q 22 [] (.mv (.t 5))) (.c (.q 23 [] (.ia 1 (.t 21) (.t 22))) (.c (.q 24 [] (.ld (.t 23))) (.c (.q 25 [] (.bin .neq (.t 20) (.t 24))) .nil)))))))))) t54_3)) t54_4)
def t54_5 := b54_5
theorem u54_5 : vcK P t54_5 k e w = vcK P b54_5 k e w := rfl
abbrev b54_6 : X := (.seq (.seq (.reg [0, 1, 5, 14] (.c (.q 11 [] (.mv (.t 5))) (.c (.q 12 [] (.mv (.t 0))) (.c (.q 13 [] (.lens (.t 12))) (.c (.q 14 [] (.bin .lss (.t 11) (.t 13))) .nil))))) t54_2) t54_5)
def t54_6 := b54_6
theorem u54_6 : vcK P t54_6 k e w = vcK P b54_6 k e w := rfl
abbrev b54_7 : X := (.blk 0 (.loop [5] [0, 1] t54_6))
def t54_7 := b54_7
theorem u54_7 : vcK P t54_7 k e w = vcK P b54_7 k e w := rfl
abbrev b54_8 : X := (.seq (.reg [4] (.c (.q 4 [] (.mv (.c (.bool true)))) .nil)) .ret)
def t54_8 := b54_8
theorem u54_8 : vcK P t54_8 k e w = vcK P b54_8 k e w := rfl
abbrev b54_9 : X := (.seq (.seq (.reg [0, 1, 5] (.c (.q 5 [] (.mv (.c (.int .i64 0)))) .nil)) t54_7) t54_8)
def t54_9 := b54_9
theorem u54_9 : vcK P t54_9 k e w = vcK P b54_9 k e w := rfl
abbrev b54_10 : X := (.seq (.seq (.reg [0, 1, 10] (.c (.q 6 [] (.mv (.t 0))) (.c (.q 7 [] (.lens (.t 6))) (.c (.q 8 [] (.mv (.t 1))) (.c (.q 9 [] (.lens (.t 8))) (.c (.q 10 [] (.bin .neq (.t 7) (.t 9))) .nil)))))) t54_1) t54_9)
def t54_10 := b54_10
theorem u54_10 : vcK P t54_10 k e w = vcK P b54_10 k e w := rfl
abbrev b54_0 : X := (.seq (.reg [0, 1] (.c (.q 4 [] (.mv (.c (.bool false)))) .nil)) t54_10)
def x_leqIntS := b54_0
theorem u54_0 : vcK P x_leqIntS k e w = vcK P b54_0 k e w := rfl
def r_leqIntS : List XO := [(.mv (.t 4))]
theorem c_leqIntS : convF Try.prog [169, 170, 207, 208, 210, 227, 232, 233, 255, 259, 268, 269, 270, 280, 281, 296, 299, 306, 307, 309] Try.f54 [([0, 1], []), ([0, 1, 10], []), ([4], []), ([0, 1, 5], []), ([5], [0, 1]), ([0, 1, 5, 14], []), ([0, 1, 5, 25], []), ([4], []), ([0, 1, 5], []), ([4], [])] = some (x_leqIntS, r_leqIntS) := by kernel_rfl
def us_leqIntS := aI @u54_0 (aI @u54_1 (aI @u54_2 (aI @u54_3 (aI @u54_4 (aI @u54_5 (aI @u54_6 (aI @u54_7 (aI @u54_8 (aI @u54_9 @u54_10)))))))))
abbrev b59_1 : X := (.cond (.t 9) .skip (.exit 0))
def t59_1 := b59_1
theorem u59_1 : vcK P t59_1 k e w = vcK P b59_1 k e w := rfl
abbrev b59_2 : X := (.reg [0, 1, 5] (.c (.q 16 [] (.mv (.t 1))) (.c (.q 17 [] (.bin .add (.t 16) (.c (.int .i64 1)))) (.c (.q 1 [] (.mv (.t 17))) .nil))))
def t59_2 := b59_2
theorem u59_2 : vcK P t59_2 k e w = vcK P b59_2 k e w := rfl
abbrev b59_3 : X := (.reg [0, 1, 5] (.c (.q 10 [] (.mv (.t 5))) (.c (.q 11 [] (.bin .add (.t 10) (.c (.int .i64 1)))) (.c (.q 5 [] (.mv (.t 11))) .nil))))
def t59_3 := b59_3
theorem u59_3 : vcK P t59_3 k e w = vcK P b59_3 k e w := rfl
abbrev b59_4 : X := (.seq (.blk 1 (.seq (.reg [0, 1, 5] (.c (.q 12 [] (.mv (.t 0))) (.c (.q 13 [] (.mv (.t 5))) (.c (.q 14 [] (.mv (.t 1))) (.c (.q 15 [] (.ia 1 (.t 12) (.t 13))) (.c (.e none [] (.st 1 (.t 15) (.t 14))) .nil)))))) t59_2)) t59_3)
def t59_4 := b59_4
theorem u59_4 : vcK P t59_4 k e w = vcK P b59_4 k e w := rfl
abbrev b59_5 : X := (.seq (.seq (.reg [0, 1, 5, 9] (.c (.q 6 [] (.mv (.t 5))) (.c (.q 7 [] (.mv (.t 0))) (.c (.q 8 [] (.lens (.t 7))) (.c (.q 9 [] (.bin .lss (.t 6) (.t 8))) .nil))))) t59_1) t59_4)
def t59_5 := b59_5
theorem u59_5 : vcK P t59_5 k e w = vcK P b59_5 k e w := rfl
abbrev b59_6 : X := (.blk 0 (.loop [1, 5] [0] t59_5))
def t59_6 := b59_6
theorem u59_6 : vcK P t59_6 k e w = vcK P b59_6 k e w := rfl
abbrev b59_7 : X := (.seq (.reg [4] (.c (.q 18 [] (.mv (.t 1))) (.c (.q 4 [] (.mv (.t 18))) .nil))) .ret)
def t59_7 := b59_7
theorem u59_7 : vcK P t59_7 k e w = vcK P b59_7 k e w := rfl
abbrev b59_8 : X := (.seq (.seq (.reg [0, 1, 5] (.c (.q 5 [] (.mv (.c (.int .i64 0)))) .nil)) t59_6) t59_7)
def t59_8 := b59_8
theorem u59_8 : vcK P t59_8 k e w = vcK P b59_8 k e w := rfl
abbrev b59_0 : X := (.seq (.reg [0, 1] (.c (.q 4 [] (.mv (.c (.int .i64 0)))) .nil)) t59_8)
def x_lmarkIntS := b59_0
theorem u59_0 : vcK P x_lmarkIntS k e w = vcK P b59_0 k e w := rfl
def r_lmarkIntS : List XO := [(.mv (.t 4))]
theorem c_lmarkIntS : convF Try.prog [169, 170, 207, 208, 210, 227, 232, 233, 255, 259, 268, 269, 270, 280, 281, 296, 299, 306, 307, 309] Try.f59 [([0, 1], []), ([0, 1, 5], []), ([1, 5], [0]), ([0, 1, 5, 9], []), ([0, 1, 5], []), ([0, 1, 5], []), ([0, 1, 5], []), ([4], [])] = some (x_lmarkIntS, r_lmarkIntS) := by kernel_rfl
def us_lmarkIntS := aI @u59_0 (aI @u59_1 (aI @u59_2 (aI @u59_3 (aI @u59_4 (aI @u59_5 (aI @u59_6 (aI @u59_7 @u59_8)))))))
abbrev b60_1 : X := (.cond (.t 9) .skip (.exit 0))
def t60_1 := b60_1
theorem u60_1 : vcK P t60_1 k e w = vcK P b60_1 k e w := rfl
abbrev b60_2 : X := (.cond (.t 17) (.seq (.reg [4] (.c (.q 4 [] (.mv (.c (.int .i64 (-1))))) .nil)) .ret) .skip)
def t60_2 := b60_2
theorem u60_2 : vcK P t60_2 k e w = vcK P b60_2 k e w := rfl
abbrev b60_3 : X := (.reg [0, 1, 5] (.c (.q 18 [] (.mv (.t 1))) (.c (.q 19 [] (.bin .add (.t 18) (.c (.int .i64 1)))) (.c (.q 1 [] (.mv (.t 19))) .nil))))
def t60_3 := b60_3
theorem u60_3 : vcK P t60_3 k e w = vcK P b60_3 k e w := rfl
abbrev b60_4 : X := (.reg [0, 1, 5] (.c (.q 10 [] (.mv (.t 5))) (.c (.q 11 [] (.bin .add (.t 10) (.c (.int .i64 1)))) (.c (.q 5 [] (.mv (.t 11))) .nil))))
def t60_4 := b60_4
theorem u60_4 : vcK P t60_4 k e w = vcK P b60_4 k e w := rfl
abbrev b60_5 : X := (.seq (.blk 1 (.seq (.seq (.reg [0, 1, 5, 17] (.c (.q 12 [] (.mv (.t 0))) (.c (.q 13 [] (.mv (.t 5))) (.c (.q 14 [] (.ia 1 (.t 12) (.t 13))) (.c (.q 15 [] (.ld (.t 14))) (.c (.q 16 [] (.mv (.t 1))) (.c (.q 17 [] (.bin .neq (.t 15) (.t 16))) .nil))))))) t60_2) t60_3)) t60_4)
def t60_5 := b60_5
theorem u60_5 : vcK P t60_5 k e w = vcK P b60_5 k e w := rfl
abbrev b60_6 : X := (.seq (.seq (.reg [0, 1, 5, 9] (.c (.q 6 [] (.mv (.t 5))) (.c (.q 7 [] (.mv (.t 0))) (.c (.q 8 [] (.lens (.t 7))) (.c (.q 9 [] (.bin .lss (.t 6) (.t 8))) .nil))))) t60_1) t60_5)
def t60_6 := b60_6
theorem u60_6 : vcK P t60_6 k e w = vcK P b60_6 k e w := rfl
abbrev b60_7 : X := (.blk 0 (.loop [1, 5] [0] t60_6))
def t60_7 := b60_7
theorem u60_7 : vcK P t60_7 k e w = vcK P b60_7 k e w := rfl
abbrev b60_8 : X := (.seq (.reg [4] (.c (.q 20 [] (.mv (.t 1))) (.c (.q 4 [] (.mv (.t 20))) .nil))) .ret)
def t60_8 := b60_8
theorem u60_8 : vcK P t60_8 k e w = vcK P b60_8 k e w := rfl
abbrev b60_9 : X := (.seq (.seq (.reg [0, 1, 5] (.c (.q 5 [] (.mv (.c (.int .i64 0)))) .nil)) t60_7) t60_8)
def t60_9 := b60_9
theorem u60_9 : vcK P t60_9 k e w = vcK P b60_9 k e w := rfl
abbrev b60_0 : X := (.seq (.reg [0, 1] (.c (.q 4 [] (.mv (.c (.int .i64 0)))) .nil)) t60_9)
def x_lheldIntS := b60_0
theorem u60_0 : vcK P x_lheldIntS k e w = vcK P b60_0 k e w := rfl
def r_lheldIntS : List XO := [(.mv (.t 4))]
theorem c_lheldIntS : convF Try.prog [169, 170, 207, 208, 210, 227, 232, 233, 255, 259, 268, 269, 270, 280, 281, 296, 299, 306, 307, 309] Try.f60 [([0, 1], []), ([0, 1, 5], []), ([1, 5], [0]), ([0, 1, 5, 9], []), ([0, 1, 5, 17], []), ([4], []), ([0, 1, 5], []), ([0, 1, 5], []), ([4], [])] = some (x_lheldIntS, r_lheldIntS) := by kernel_rfl
def us_lheldIntS := aI @u60_0 (aI @u60_1 (aI @u60_2 (aI @u60_3 (aI @u60_4 (aI @u60_5 (aI @u60_6 (aI @u60_7 (aI @u60_8 @u60_9))))))))
abbrev b57_1 : X := (.seq (.reg [4] (.c (.q 9 [] (.mv (.t 1))) (.c (.q 4 [] (.mv (.t 9))) .nil))) .ret)
def t57_1 := b57_1
theorem u57_1 : vcK P t57_1 k e w = vcK P b57_1 k e w := rfl
abbrev b57_2 : X := (.seq (.reg [1] (.c (.q 5 [] (.fa 2 (.t 2))) (.c (.q 6 [] (.ld (.t 5))) (.c (.q 7 [] (.mv (.t 1))) (.c (.e (some 8) [] (.call false 24 [(.t 6), (.t 7)])) (.c (.q 1 [] (.mv (.t 8))) .nil)))))) t57_1)
def t57_2 := b57_2
theorem u57_2 : vcK P t57_2 k e w = vcK P b57_2 k e w := rfl
abbrev b57_0 : X := (.seq (.reg [1, 2] (.c (.e (some 2) [] (.box 41 (.t 0))) (.c (.q 4 [] (.mv (.c (.int .i64 0)))) .nil))) t57_2)
def x_lmarkMethod := b57_0
theorem u57_0 : vcK P x_lmarkMethod k e w = vcK P b57_0 k e w := rfl
def r_lmarkMethod : List XO := [(.mv (.t 4))]
theorem c_lmarkMethod : convF Try.prog [169, 170, 207, 208, 210, 227, 232, 233, 255, 259, 268, 269, 270, 280, 281, 296, 299, 306, 307, 309] Try.f57 [([1, 2], []), ([1], []), ([4], [])] = some (x_lmarkMethod, r_lmarkMethod) := by kernel_rfl
def us_lmarkMethod := aI @u57_0 (aI @u57_1 @u57_2)
end

/-- The cells of calls: bob, single. -/
def fQ (b s : List UInt8) : List Value := [S b, S s]
abbrev kV (b s : List UInt8) : Value := .agg ⟨fQ b s⟩
theorem fQg (b s : List UInt8) : (∀ v, (fQ b s).getD 0 v = S b) ∧ (∀ v, (fQ b s).getD 1 v = S s) ∧ (fQ b s).length = 2 := ⟨fun _ => rfl, fun _ => rfl, rfl⟩
theorem fQ_one (b s : List UInt8) : ∀ u ∈ fQ b s, u.oneCell' = true := fun u h => by simp only [fQ, List.mem_cons, List.not_mem_nil, or_false] at h; rcases h with rfl | rfl <;> rfl
def IsCall (l : List UInt8) : Prop := l = [112] ∨ l = [98] ∨ l = [115]
instance (l : List UInt8) : Decidable (IsCall l) := by unfold IsCall; infer_instance
theorem iisCall_okc (l : List UInt8) (w : World) : Fn 245 [S l] w (fun r _ => r = .bool (decide (IsCall l))) := by
  (refine callsV_of mix Try.func245 c_iisCall ?_; simp only [↓vsd, vsn, gW, qd, qv, ev, pick, argE, zipE, ne_eq, eq_self, forall_const, implies_true, if_true, if_false, reduceIte, reduceCtorEq, Nat.reduceEqDiff, Nat.reduceAdd, Nat.reduceLT, ↓us_iisCall, r_iisCall])
  refine ⟨Ext.refl _, ?_⟩
  simp only [IsCall, ← Bool.decide_or, or_assoc]
theorem sl8Call_okc (l : List UInt8) (w : World) : Fn 256 [S l] w (fun r _ => r = .bool (decide (IsCall l))) := by
  (refine callsV_of mix Try.func256 c_sl8Call ?_; simp only [↓vsd, vsn, gW, qd, qv, ev, pick, argE, zipE, ne_eq, eq_self, forall_const, implies_true, if_true, if_false, reduceIte, reduceCtorEq, Nat.reduceEqDiff, Nat.reduceAdd, Nat.reduceLT, ↓us_sl8Call, r_sl8Call])
  refine ⟨Ext.refl _, ?_⟩
  simp only [IsCall, ← Bool.decide_or, or_assoc]
/-- A method with calls. -/
def IsMC (nm : List UInt8) (st : Int) (cs : List (List UInt8)) (b s : List UInt8) : Prop := IsMethod nm st cs ∧ IsChange st b ∧ IsChange st s
instance (nm : List UInt8) (st : Int) (cs : List (List UInt8)) (b s : List UInt8) : Decidable (IsMC nm st cs b s) := by unfold IsMC; infer_instance
theorem iGoodCalls_ok (nm : List UInt8) (st : Int) (v : Value) (cs : List (List UInt8)) (b s : List UInt8) (hnm : nm.length ≤ 1048576) (hs : ∀ c ∈ cs, c.length ≤ 1048576) (hl : cs.length ≤ 1000000000) (hb : b.length ≤ 1048576 ∧ s.length ≤ 1048576) (w : World) (h : Sq fS 1 w v cs) : Fn 131 [mV nm st v, kV b s] w (fun r _ => r = .bool (decide (IsMC nm st cs b s))) := by
  (refine callsV_of mix Try.func131 c_iGoodCalls ?_; simp only [↓vsd, vsn, gW, qd, qv, ev, pick, argE, zipE, ne_eq, eq_self, forall_const, implies_true, if_true, if_false, reduceIte, reduceCtorEq, Nat.reduceEqDiff, Nat.reduceAdd, Nat.reduceLT, ↓us_iGoodCalls, r_iGoodCalls])
  refine m_al ?_
  rintro b1 w1 hb1 hblk1 hx1 hs1
  have h1 : Blk w1 b1 (fM nm st v) 41 := hblk1
  simp only [↓vsd, vsn, gW, qd, qv, ev, pick, argE, zipE, ne_eq, eq_self, forall_const, implies_true, if_true, if_false, reduceIte, reduceCtorEq, Nat.reduceEqDiff, Nat.reduceAdd, Nat.reduceLT, ↓us_iGoodCalls, r_iGoodCalls, h1.facts, fMg]
  refine m_al ?_
  rintro b2 w2 hb2 hblk2 hx2 hs2
  have h2 : Blk w2 b2 (fQ b s) 32 := hblk2
  have h12 := h1.ext hx2
  have hx12 := hx1.trans hx2
  simp only [↓vsd, vsn, gW, qd, qv, ev, pick, argE, zipE, ne_eq, eq_self, forall_const, implies_true, if_true, if_false, reduceIte, reduceCtorEq, Nat.reduceEqDiff, Nat.reduceAdd, Nat.reduceLT, ↓us_iGoodCalls, r_iGoodCalls, h12.facts, h2.facts, fMg, fQg]
  refine m_call (iGoodMethod_ok nm st v cs hnm hs hl _ (h.ext hx12)) ?_
  rintro _ w3 hx3 rfl
  have h13 := h12.ext hx3
  have h23 := h2.ext hx3
  simp only [↓vsd, vsn, gW, qd, qv, ev, pick, argE, zipE, ne_eq, eq_self, forall_const, implies_true, if_true, if_false, reduceIte, reduceCtorEq, Nat.reduceEqDiff, Nat.reduceAdd, Nat.reduceLT, ↓us_iGoodCalls, r_iGoodCalls, h13.facts, h23.facts, fMg, fQg]
  refine ⟨fun hm => m_call (iGoodChange_ok st b hb.1 _) ?_, fun hm => ?_⟩
  · rintro _ w4 hx4 rfl
    have h14 := h13.ext hx4
    have h24 := h23.ext hx4
    simp only [↓vsd, vsn, gW, qd, qv, ev, pick, argE, zipE, ne_eq, eq_self, forall_const, implies_true, if_true, if_false, reduceIte, reduceCtorEq, Nat.reduceEqDiff, Nat.reduceAdd, Nat.reduceLT, ↓us_iGoodCalls, r_iGoodCalls, h14.facts, h24.facts, fMg, fQg]
    refine ⟨fun hcb => m_call (iGoodChange_ok st s hb.2 _) ?_, fun hcb => ⟨(hx12.trans hx3).trans hx4, by rw [decide_eq_false fun hh : IsMC nm st cs b s => hcb ⟨hh.1, hh.2.1⟩]⟩⟩
    rintro _ w5 hx5 rfl
    simp only [↓vsd, vsn, gW, qd, qv, ev, pick, argE, zipE, ne_eq, eq_self, forall_const, implies_true, if_true, if_false, reduceIte, reduceCtorEq, Nat.reduceEqDiff, Nat.reduceAdd, Nat.reduceLT, ↓us_iGoodCalls, r_iGoodCalls]
    exact ⟨((hx12.trans hx3).trans hx4).trans hx5, by simp [IsMC, hm, hcb]⟩
  · exact ⟨hx12.trans hx3, by simp [IsMC, hm]⟩
theorem sl8Good_ok (nm : List UInt8) (st : Int) (v : Value) (cs : List (List UInt8)) (b s : List UInt8) (hnm : nm.length ≤ 1048576) (hs : ∀ c ∈ cs, c.length ≤ 1048576) (hl : cs.length ≤ 1000000000) (hb : b.length ≤ 1048576 ∧ s.length ≤ 1048576) (w : World) (h : Sq fS 1 w v cs) : Fn 253 [mV nm st v, kV b s] w (fun r _ => r = .bool (decide (IsMC nm st cs b s))) := by
  (refine callsV_of mix Try.func253 c_sl8Good ?_; simp only [↓vsd, vsn, gW, qd, qv, ev, pick, argE, zipE, ne_eq, eq_self, forall_const, implies_true, if_true, if_false, reduceIte, reduceCtorEq, Nat.reduceEqDiff, Nat.reduceAdd, Nat.reduceLT, ↓us_sl8Good, r_sl8Good])
  refine m_al ?_
  rintro b1 w1 hb1 hblk1 hx1 hs1
  have h1 : Blk w1 b1 (fM nm st v) 41 := hblk1
  simp only [↓vsd, vsn, gW, qd, qv, ev, pick, argE, zipE, ne_eq, eq_self, forall_const, implies_true, if_true, if_false, reduceIte, reduceCtorEq, Nat.reduceEqDiff, Nat.reduceAdd, Nat.reduceLT, ↓us_sl8Good, r_sl8Good, h1.facts, fMg]
  refine m_al ?_
  rintro b2 w2 hb2 hblk2 hx2 hs2
  have h2 : Blk w2 b2 (fQ b s) 32 := hblk2
  have h12 := h1.ext hx2
  have hx12 := hx1.trans hx2
  simp only [↓vsd, vsn, gW, qd, qv, ev, pick, argE, zipE, ne_eq, eq_self, forall_const, implies_true, if_true, if_false, reduceIte, reduceCtorEq, Nat.reduceEqDiff, Nat.reduceAdd, Nat.reduceLT, ↓us_sl8Good, r_sl8Good, h12.facts, h2.facts, fMg, fQg]
  refine m_call (sl4Good_ok nm st v cs hnm hs hl _ (h.ext hx12)) ?_
  rintro _ w3 hx3 rfl
  have h13 := h12.ext hx3
  have h23 := h2.ext hx3
  simp only [↓vsd, vsn, gW, qd, qv, ev, pick, argE, zipE, ne_eq, eq_self, forall_const, implies_true, if_true, if_false, reduceIte, reduceCtorEq, Nat.reduceEqDiff, Nat.reduceAdd, Nat.reduceLT, ↓us_sl8Good, r_sl8Good, h13.facts, h23.facts, fMg, fQg]
  refine ⟨fun hm => m_call (sl2Change_ok st b hb.1 _) ?_, fun hm => ?_⟩
  · rintro _ w4 hx4 rfl
    have h14 := h13.ext hx4
    have h24 := h23.ext hx4
    simp only [↓vsd, vsn, gW, qd, qv, ev, pick, argE, zipE, ne_eq, eq_self, forall_const, implies_true, if_true, if_false, reduceIte, reduceCtorEq, Nat.reduceEqDiff, Nat.reduceAdd, Nat.reduceLT, ↓us_sl8Good, r_sl8Good, h14.facts, h24.facts, fMg, fQg]
    refine ⟨fun hcb => m_call (sl2Change_ok st s hb.2 _) ?_, fun hcb => ⟨(hx12.trans hx3).trans hx4, by rw [decide_eq_false fun hh : IsMC nm st cs b s => hcb ⟨hh.1, hh.2.1⟩]⟩⟩
    rintro _ w5 hx5 rfl
    simp only [↓vsd, vsn, gW, qd, qv, ev, pick, argE, zipE, ne_eq, eq_self, forall_const, implies_true, if_true, if_false, reduceIte, reduceCtorEq, Nat.reduceEqDiff, Nat.reduceAdd, Nat.reduceLT, ↓us_sl8Good, r_sl8Good]
    exact ⟨((hx12.trans hx3).trans hx4).trans hx5, by simp [IsMC, hm, hcb]⟩
  · exact ⟨hx12.trans hx3, by simp [IsMC, hm]⟩
theorem sl8Asked_ok (nm : List UInt8) (st : Int) (v : Value) (cs : List (List UInt8)) (b s call : List UInt8) (hnm : nm.length ≤ 1048576) (hs : ∀ c ∈ cs, c.length ≤ 1048576) (hl : cs.length ≤ 1000000000) (hb : b.length ≤ 1048576 ∧ s.length ≤ 1048576) (w : World) (h : Sq fS 1 w v cs) : Fn 219 [mV nm st v, kV b s, S call] w (fun r _ => r = .bool (decide (IsMC nm st cs b s ∧ IsCall call))) := by
  (refine callsV_of mix Try.func219 c_sl8Asked ?_; simp only [↓vsd, vsn, gW, qd, qv, ev, pick, argE, zipE, ne_eq, eq_self, forall_const, implies_true, if_true, if_false, reduceIte, reduceCtorEq, Nat.reduceEqDiff, Nat.reduceAdd, Nat.reduceLT, ↓us_sl8Asked, r_sl8Asked])
  refine m_al ?_
  rintro b1 w1 hb1 hblk1 hx1 hs1
  have h1 : Blk w1 b1 (fM nm st v) 41 := hblk1
  simp only [↓vsd, vsn, gW, qd, qv, ev, pick, argE, zipE, ne_eq, eq_self, forall_const, implies_true, if_true, if_false, reduceIte, reduceCtorEq, Nat.reduceEqDiff, Nat.reduceAdd, Nat.reduceLT, ↓us_sl8Asked, r_sl8Asked, h1.facts, fMg]
  refine m_al ?_
  rintro b2 w2 hb2 hblk2 hx2 hs2
  have h2 : Blk w2 b2 (fQ b s) 32 := hblk2
  have h12 := h1.ext hx2
  have hx12 := hx1.trans hx2
  simp only [↓vsd, vsn, gW, qd, qv, ev, pick, argE, zipE, ne_eq, eq_self, forall_const, implies_true, if_true, if_false, reduceIte, reduceCtorEq, Nat.reduceEqDiff, Nat.reduceAdd, Nat.reduceLT, ↓us_sl8Asked, r_sl8Asked, h12.facts, h2.facts, fMg, fQg]
  refine m_call (sl8Good_ok nm st v cs b s hnm hs hl hb _ (h.ext hx12)) ?_
  rintro _ w3 hx3 rfl
  simp only [↓vsd, vsn, gW, qd, qv, ev, pick, argE, zipE, ne_eq, eq_self, forall_const, implies_true, if_true, if_false, reduceIte, reduceCtorEq, Nat.reduceEqDiff, Nat.reduceAdd, Nat.reduceLT, ↓us_sl8Asked, r_sl8Asked]
  refine ⟨fun hm => m_call (sl8Call_okc call _) ?_, fun hm => ⟨hx12.trans hx3, by simp [hm]⟩⟩
  rintro _ w4 hx4 rfl
  simp only [↓vsd, vsn, gW, qd, qv, ev, pick, argE, zipE, ne_eq, eq_self, forall_const, implies_true, if_true, if_false, reduceIte, reduceCtorEq, Nat.reduceEqDiff, Nat.reduceAdd, Nat.reduceLT, ↓us_sl8Asked, r_sl8Asked]
  exact ⟨(hx12.trans hx3).trans hx4, by simp [hm]⟩
/-- The last change of a lead with a call. -/
def chgOf (cs : List (List UInt8)) (b s call : List UInt8) : List UInt8 := if call = [98] then b else if call = [115] then s else cs.getD (cs.length - 1) []
def calledCs (cs : List (List UInt8)) (b s call : List UInt8) : List (List UInt8) := cs.take (cs.length - 1) ++ [chgOf cs b s call]
/-- The lead head of a lead with a call. -/
def headC (st : Nat) (cs : List (List UInt8)) (b s call : List UInt8) : List UInt8 := underL (roundsL st) (calledCs cs b s call)
theorem headC_eq (st : Nat) (cs : List (List UInt8)) (b s call : List UInt8) : headC st cs b s call = applyL (underL (roundsL st) (cs.take (cs.length - 1))) (chgOf cs b s call) := by
  rw [headC, calledCs, underL, underL, List.foldl_append]; rfl
theorem calledCs_len (cs : List (List UInt8)) (b s call : List UInt8) (h : 1 ≤ cs.length) : (calledCs cs b s call).length = cs.length := by
  simp [calledCs]; omega
theorem IsMC.chg {nm : List UInt8} {st : Int} {cs : List (List UInt8)} {b s : List UInt8} (h : IsMC nm st cs b s) (call : List UInt8) : IsChange st (chgOf cs b s call) := by
  unfold chgOf
  split
  · exact h.2.1
  · split
    · exact h.2.2
    · exact h.1.2.2.2 _ (getD_mem [] (by have := h.1.2.2.1; omega))
theorem IsMC.called {nm : List UInt8} {st : Int} {cs : List (List UInt8)} {b s : List UInt8} (h : IsMC nm st cs b s) (call : List UInt8) : IsMethod nm st (calledCs cs b s call) := by
  refine ⟨h.1.1, h.1.2.1, by rw [calledCs_len _ _ _ _ h.1.2.2.1.1]; exact h.1.2.2.1, fun c hc => ?_⟩
  rcases List.mem_append.1 hc with hc | hc
  · exact h.1.2.2.2 c (List.mem_of_mem_take hc)
  · rw [List.mem_singleton.1 hc]; exact h.chg call
theorem headC_row {nm : List UInt8} {st : Nat} {cs : List (List UInt8)} {b s : List UInt8} (h : IsMC nm st cs b s) (call : List UInt8) : IsRow (headC st cs b s call) ∧ (headC st cs b s call).length = st := by
  have h8 := h.1.2.1
  exact ⟨underL_row _ (roundsL_row st (by omega)), by rw [headC, underL_len, roundsL_len]⟩
theorem IsChange.small {n : Int} {c : List UInt8} (h : IsChange n c) : c.length ≤ 8 := by have := h.len; have := h.1; omega
theorem sl8Change_ok (nm : List UInt8) (st : Int) (v : Value) (cs : List (List UInt8)) (b s call : List UInt8) (hl : 1 ≤ cs.length ∧ cs.length ≤ 40) (w : World) (h : Sq fS 1 w v cs) : Fn 247 [mV nm st v, kV b s, S call] w (fun r _ => r = S (chgOf cs b s call)) := by
  (refine callsV_of mix Try.func247 c_sl8Change ?_; simp only [↓vsd, vsn, gW, qd, qv, ev, pick, argE, zipE, ne_eq, eq_self, forall_const, implies_true, if_true, if_false, reduceIte, reduceCtorEq, Nat.reduceEqDiff, Nat.reduceAdd, Nat.reduceLT, ↓us_sl8Change, r_sl8Change])
  refine m_al ?_
  rintro b1 w1 hb1 hblk1 hx1 hs1
  have h1 : Blk w1 b1 (fM nm st v) 41 := hblk1
  simp only [↓vsd, vsn, gW, qd, qv, ev, pick, argE, zipE, ne_eq, eq_self, forall_const, implies_true, if_true, if_false, reduceIte, reduceCtorEq, Nat.reduceEqDiff, Nat.reduceAdd, Nat.reduceLT, ↓us_sl8Change, r_sl8Change, h1.facts, fMg]
  refine m_al ?_
  rintro b2 w2 hb2 hblk2 hx2 hs2
  have h2 : Blk w2 b2 (fQ b s) 32 := hblk2
  have h12 := h1.ext hx2
  have hx12 := hx1.trans hx2
  have hq := h.ext hx12
  have hI : ((cs.length : Nat) : Int) - 1 = ((cs.length - 1 : Nat) : Int) := by omega
  have hlt : cs.length - 1 < cs.length := by omega
  simp only [↓vsd, vsn, gW, qd, qv, ev, pick, argE, zipE, ne_eq, eq_self, forall_const, implies_true, if_true, if_false, reduceIte, reduceCtorEq, Nat.reduceEqDiff, Nat.reduceAdd, Nat.reduceLT, ↓us_sl8Change, r_sl8Change, h12.facts, h2.facts, fMg, fQg, hq.facts, hI, hq.at1 [] hlt]
  refine ⟨fun h1 => ⟨hx12, by rw [chgOf, if_pos h1]⟩, fun h1 => ⟨fun h2 => ⟨hx12, by rw [chgOf, if_neg h1, if_pos h2]⟩, fun h2 => ⟨inR_i64 (by omega), by omega, hx12, by rw [chgOf, if_neg h1, if_neg h2]⟩⟩⟩
theorem sl8Head_ok (nm : List UInt8) (st : Nat) (v : Value) (cs : List (List UInt8)) (b s call : List UInt8) (hm : IsMC nm st cs b s) (w : World) (h : Sq fS 1 w v cs) : Fn 220 [mV nm st v, kV b s, S call] w (fun r _ => r = S (headC st cs b s call)) := by
  (refine callsV_of mix Try.func220 c_sl8Head ?_; simp only [↓vsd, vsn, gW, qd, qv, ev, pick, argE, zipE, ne_eq, eq_self, forall_const, implies_true, if_true, if_false, reduceIte, reduceCtorEq, Nat.reduceEqDiff, Nat.reduceAdd, Nat.reduceLT, ↓us_sl8Head, r_sl8Head])
  refine m_al ?_
  rintro b1 w1 hb1 hblk1 hx1 hs1
  have h1 : Blk w1 b1 (fM nm st v) 41 := hblk1
  simp only [↓vsd, vsn, gW, qd, qv, ev, pick, argE, zipE, ne_eq, eq_self, forall_const, implies_true, if_true, if_false, reduceIte, reduceCtorEq, Nat.reduceEqDiff, Nat.reduceAdd, Nat.reduceLT, ↓us_sl8Head, r_sl8Head, h1.facts, fMg]
  refine m_al ?_
  rintro b2 w2 hb2 hblk2 hx2 hs2
  have h2 : Blk w2 b2 (fQ b s) 32 := hblk2
  have h12 := h1.ext hx2
  have hx12 := hx1.trans hx2
  have hq := h.ext hx12
  have hc := hm.1.2.2.1
  have h8 := hm.1.2.1
  have hI : ((cs.length : Nat) : Int) - 1 = ((cs.length - 1 : Nat) : Int) := by omega
  obtain ⟨hd, hqh⟩ := hq.headS .i64 (cs.length - 1) (by omega)
  simp only [↓vsd, vsn, gW, qd, qv, ev, pick, argE, zipE, ne_eq, eq_self, forall_const, implies_true, if_true, if_false, reduceIte, reduceCtorEq, Nat.reduceEqDiff, Nat.reduceAdd, Nat.reduceLT, ↓us_sl8Head, r_sl8Head, h12.facts, h2.facts, fMg, fQg, hq.facts, hI, hd]
  refine ⟨inR_i64 (by omega), m_call (sl1Rounds_ok st (by omega) _) ?_⟩
  rintro _ w3 hx3 rfl
  have hx3 := ud hx3
  have h13 := h12.ext hx3
  have h23 := h2.ext hx3
  simp only [↓vsd, vsn, gW, qd, qv, ev, pick, argE, zipE, ne_eq, eq_self, forall_const, implies_true, if_true, if_false, reduceIte, reduceCtorEq, Nat.reduceEqDiff, Nat.reduceAdd, Nat.reduceLT, ↓us_sl8Head, r_sl8Head, h13.facts, h23.facts, fMg, fQg]
  refine m_call (sl4Lead_ok (roundsL st) _ (cs.take (cs.length - 1)) st (roundsL_row st (by omega)) (fun c hc => hm.1.2.2.2 c (List.mem_of_mem_take hc)) (by rw [List.length_take]; omega) _ (hqh.ext hx3)) ?_
  rintro _ w4 hx4 ⟨x, rfl, ho⟩
  have h14 := h13.ext hx4
  have h24 := h23.ext hx4
  have hx14 := (hx12.trans hx3).trans hx4
  simp only [↓vsd, vsn, gW, qd, qv, ev, pick, argE, zipE, ne_eq, eq_self, forall_const, implies_true, if_true, if_false, reduceIte, reduceCtorEq, Nat.reduceEqDiff, Nat.reduceAdd, Nat.reduceLT, ↓us_sl8Head, r_sl8Head, h14.facts, h24.facts, fMg, fQg]
  refine m_call (sl8Change_ok nm st v cs b s call hc _ (h.ext hx14)) ?_
  rintro _ w5 hx5 rfl
  simp only [↓vsd, vsn, gW, qd, qv, ev, pick, argE, zipE, ne_eq, eq_self, forall_const, implies_true, if_true, if_false, reduceIte, reduceCtorEq, Nat.reduceEqDiff, Nat.reduceAdd, Nat.reduceLT, ↓us_sl8Head, r_sl8Head]
  refine m_call (sl2Apply_ok _ _ (underL_row _ (roundsL_row st (by omega))) (by have := (hm.chg call).small; omega) _) ?_
  rintro _ w6 hx6 rfl
  simp only [↓vsd, vsn, gW, qd, qv, ev, pick, argE, zipE, ne_eq, eq_self, forall_const, implies_true, if_true, if_false, reduceIte, reduceCtorEq, Nat.reduceEqDiff, Nat.reduceAdd, Nat.reduceLT, ↓us_sl8Head, r_sl8Head]
  exact ⟨(hx14.trans hx5).trans hx6, by rw [headC_eq]⟩
/-- A law's size of calls. -/
theorem lszCalls_ok (b s : List UInt8) (n : Int) (hn : n ≤ 1048576 ∧ 0 ≤ n) (hb : b.length ≤ 9223372036854775807 ∧ s.length ≤ 9223372036854775807) (w : World) :
    Fn 16 [kV b s, .int .i64 n] w (fun r _ => ∃ m : Int, r = .int .i64 m ∧ m ≤ 1048576 ∧ (0 ≤ m → b.length ≤ 1048576 ∧ s.length ≤ 1048576)) := by
  (refine callsV_of mix Try.func16 c_lszCalls ?_; simp only [↓vsd, vsn, gW, qd, qv, ev, pick, argE, zipE, ne_eq, eq_self, forall_const, implies_true, if_true, if_false, reduceIte, reduceCtorEq, Nat.reduceEqDiff, Nat.reduceAdd, Nat.reduceLT, ↓us_lszCalls, r_lszCalls])
  refine m_al ?_
  rintro b1 w1 hb1 hblk hx1 hs1
  have h1 : Blk w1 b1 (fQ b s) 24 := hblk
  simp only [↓vsd, vsn, gW, qd, qv, ev, pick, argE, zipE, ne_eq, eq_self, forall_const, implies_true, if_true, if_false, reduceIte, reduceCtorEq, Nat.reduceEqDiff, Nat.reduceAdd, Nat.reduceLT, ↓us_lszCalls, r_lszCalls, h1.facts, fQg]
  refine ⟨inR_i64 (by omega), fun hneg => ⟨hx1, -1, rfl, by omega, fun h => by omega⟩, fun hpos => ⟨inR_i64 (by omega), fun hneg => ⟨hx1, -1, rfl, by omega, fun h => by omega⟩, fun hp => ⟨hx1, _, rfl, by omega, fun _ => by omega⟩⟩⟩
theorem ltoCalls_ok (b s : List UInt8) (w : World) : Fn 19 [kV b s] w (fun r _ => r = kV b s) := by
  (refine callsV_of mix Try.func19 c_ltoCalls ?_; simp only [↓vsd, vsn, gW, qd, qv, ev, pick, argE, zipE, ne_eq, eq_self, forall_const, implies_true, if_true, if_false, reduceIte, reduceCtorEq, Nat.reduceEqDiff, Nat.reduceAdd, Nat.reduceLT, ↓us_ltoCalls, r_ltoCalls])
  refine m_al ?_
  rintro b1 w1 hb1 hblk1 hx1 hs1
  have h1 : Blk w1 b1 (fQ b s) 24 := hblk1
  simp only [↓vsd, vsn, gW, qd, qv, ev, pick, argE, zipE, ne_eq, eq_self, forall_const, implies_true, if_true, if_false, reduceIte, reduceCtorEq, Nat.reduceEqDiff, Nat.reduceAdd, Nat.reduceLT, ↓us_ltoCalls, r_ltoCalls, h1.facts, fQg]
  refine m_al ?_
  rintro b2 w2 hb2 hblk2 hx2 hs2
  have h1 := h1.ext hx2
  simp only [↓vsd, vsn, gW, qd, qv, ev, pick, argE, zipE, ne_eq, eq_self, forall_const, implies_true, if_true, if_false, reduceIte, reduceCtorEq, Nat.reduceEqDiff, Nat.reduceAdd, Nat.reduceLT, ↓us_ltoCalls, r_ltoCalls, h1.facts, fQg]
  refine m_al ?_
  rintro b3 w3 hb3 hblk3 hx3 hs3
  have h1 := h1.ext hx3
  simp only [↓vsd, vsn, gW, qd, qv, ev, pick, argE, zipE, ne_eq, eq_self, forall_const, implies_true, if_true, if_false, reduceIte, reduceCtorEq, Nat.reduceEqDiff, Nat.reduceAdd, Nat.reduceLT, ↓us_ltoCalls, r_ltoCalls, h1.facts, fQg]
  refine m_st hblk3 rfl (by simp) (fS_one _) ?_
  rintro w4 hblk4 hu4
  have h1 := hu4.blk h1 (by omega)
  simp only [↓vsd, vsn, gW, qd, qv, ev, pick, argE, zipE, ne_eq, eq_self, forall_const, implies_true, if_true, if_false, reduceIte, reduceCtorEq, Nat.reduceEqDiff, Nat.reduceAdd, Nat.reduceLT, ↓us_ltoCalls, r_ltoCalls, h1.facts, fQg]
  refine m_st hblk4 rfl (Nat.le_refl 2) (fS_one _) ?_
  rintro w5 hblk5 hu5
  have h5 : Blk w5 b3 (fQ b s) 32 := hblk5
  have hx : Ext w w5 := hu5.below (hu4.below ((hx1.trans hx2).trans hx3) (by omega)) (by omega)
  simp only [↓vsd, vsn, gW, qd, qv, ev, pick, argE, zipE, ne_eq, eq_self, forall_const, implies_true, if_true, if_false, reduceIte, reduceCtorEq, Nat.reduceEqDiff, Nat.reduceAdd, Nat.reduceLT, ↓us_ltoCalls, r_ltoCalls, h5.facts, fQg]
  refine m_st (hu5.blk (hu4.blk (hblk2.ext hx3) (by omega)) (by omega)) rfl (Nat.le_refl 2) (fQ_one _ _) ?_
  rintro w6 hblk6 hu6
  have h6 : Blk w6 b2 (fQ b s) 32 := hblk6
  have hx : Ext w w6 := hu6.below hx (by omega)
  simp only [↓vsd, vsn, gW, qd, qv, ev, pick, argE, zipE, ne_eq, eq_self, forall_const, implies_true, if_true, if_false, reduceIte, reduceCtorEq, Nat.reduceEqDiff, Nat.reduceAdd, Nat.reduceLT, ↓us_ltoCalls, r_ltoCalls, h6.facts, fQg]
  exact hx
theorem leqIntS_ok (v1 v2 : Value) (l1 l2 : List Int) (w : World) (h1 : Sq fI 1 w v1 l1) (h2 : Sq fI 1 w v2 l2) (hl : l1.length ≤ 1000000000) : Fn 54 [v1, v2] w (fun v _ => v = .bool (decide (l1 = l2))) := by
  (refine callsV_of mix Try.func54 c_leqIntS ?_; simp only [↓vsd, vsn, gW, qd, qv, ev, pick, argE, zipE, ne_eq, eq_self, forall_const, implies_true, if_true, if_false, reduceIte, reduceCtorEq, Nat.reduceEqDiff, Nat.reduceAdd, Nat.reduceLT, ↓us_leqIntS, r_leqIntS])
  simp only [↓vsd, vsn, gW, qd, qv, ev, pick, argE, zipE, ne_eq, eq_self, forall_const, implies_true, if_true, if_false, reduceIte, reduceCtorEq, Nat.reduceEqDiff, Nat.reduceAdd, Nat.reduceLT, ↓us_leqIntS, r_leqIntS, h1.facts, h2.facts]
  refine ⟨fun hne => ⟨Ext.refl _, by have : ¬ l1 = l2 := fun e => hne (by rw [e]); simp [this]⟩, fun he => ?_⟩
  have he : l1.length = l2.length := by omega
  refine m_upto l1.length (fun k vs w' => vs = [.int .i64 k] ∧ l1.take k = l2.take k ∧ Ext w w') ⟨rfl, by simp, Ext.refl _⟩ ?_
  rintro k vs w1 hk ⟨rfl, hall, hx⟩
  have hq1 := h1.ext hx
  have hq2 := h2.ext hx
  by_cases hlt : k < l1.length
  · have hltI : (k : Int) < l1.length := by omega
    have hltJ : ¬ (l1.length : Int) ≤ k := by omega
    have hlt2 : k < l2.length := by omega
    have hltK : (k : Int) < l2.length := by omega
    simp only [↓vsd, vsn, gW, qd, qv, ev, pick, argE, zipE, ne_eq, eq_self, forall_const, implies_true, if_true, if_false, reduceIte, reduceCtorEq, Nat.reduceEqDiff, Nat.reduceAdd, Nat.reduceLT, ↓us_leqIntS, r_leqIntS, hq1.facts, hq2.facts, hltI, hltJ, hltK, hq1.at1 0 hlt, hq2.at1 0 hlt2]
    refine ⟨by omega, by omega, fun hne => ⟨hx, by simp [ne_at k hne]⟩, fun he => ⟨inR_i64 (by omega), UpTo.next hlt ⟨rfl, eq_take hall hlt hlt2 he, by first | exact hx | exact dr hx⟩⟩⟩
  · obtain rfl : k = l1.length := by omega
    have hltI : ¬ (l1.length : Int) < l1.length := by omega
    simp only [↓vsd, vsn, gW, qd, qv, ev, pick, argE, zipE, ne_eq, eq_self, forall_const, implies_true, if_true, if_false, reduceIte, reduceCtorEq, Nat.reduceEqDiff, Nat.reduceAdd, Nat.reduceLT, ↓us_leqIntS, r_leqIntS, hq1.facts, hltI]
    exact ⟨hx, by simp [eq_len hall he]⟩
def marksI (k n : Nat) : List Int := (List.range n).map fun i => ((k + i : Nat) : Int)
theorem marksI_len (k n : Nat) : (marksI k n).length = n := by simp [marksI]
theorem marksI_get (k n i : Nat) (h : i < n) : (marksI k n).getD i 0 = ((k + i : Nat) : Int) := by simp [marksI, List.getD_eq_getElem?_getD, h]
theorem marksI_succ (k n : Nat) : marksI k (n + 1) = marksI k n ++ [((k + n : Nat) : Int)] := by simp [marksI, List.range_succ]
theorem set_marksI (l : List Int) (k i : Nat) (h : i < l.length) : (marksI k i ++ l.drop i).set i ((k + i : Nat) : Int) = marksI k (i + 1) ++ l.drop (i + 1) := by
  rw [List.set_append_right _ _ (by rw [marksI_len]; exact Nat.le_refl i), marksI_len, Nat.sub_self, marksI_succ, List.append_assoc, List.drop_eq_getElem_cons h]
  rfl
theorem lmarkIntS_ok (v : Value) (l : List Int) (B k : Nat) (hl : l.length ≤ 1000000000) (hk : k ≤ 1000000000) (w : World) (h : Own fI 1 3 B w v l) :
    CallsV Try.prog 59 [v, .int .i64 k] w (fun v' w' => v' = .int .i64 (k + l.length : Nat) ∧ Own fI 1 3 B w' v (marksI k l.length) ∧ w.grownBy w' v.ownBlock) := by
  (refine callsV_of mix Try.func59 c_lmarkIntS ?_; simp only [↓vsd, vsn, gW, qd, qv, ev, pick, argE, zipE, ne_eq, eq_self, forall_const, implies_true, if_true, if_false, reduceIte, reduceCtorEq, Nat.reduceEqDiff, Nat.reduceAdd, Nat.reduceLT, ↓us_lmarkIntS, r_lmarkIntS])
  refine m_upto l.length (fun i vs w' => vs = [.int .i64 (k + i : Nat), .int .i64 i] ∧ Own fI 1 3 B w' v (marksI k i ++ l.drop i) ∧ w.grownBy w' v.ownBlock) ⟨rfl, h.to (by simp [marksI]), grown_refl _ _⟩ ?_
  rintro i vs w1 hi ⟨rfl, ho, hg⟩
  have hlen : (marksI k i ++ l.drop i).length = l.length := by simp [marksI_len]; omega
  by_cases hlt : i < l.length
  · have hltI : (i : Int) < l.length := by omega
    have hltJ : ¬ (l.length : Int) ≤ i := by omega
    simp only [↓vsd, vsn, gW, qd, qv, ev, pick, argE, zipE, ne_eq, eq_self, forall_const, implies_true, if_true, if_false, reduceIte, reduceCtorEq, Nat.reduceEqDiff, Nat.reduceAdd, Nat.reduceLT, ↓us_lmarkIntS, r_lmarkIntS, ho.sq.facts, hlen, hltI, hltJ]
    refine ⟨by omega, m_set1 i ((k + i : Nat) : Int) ho rfl (by omega) rfl fI_one ?_⟩
    rintro w3 ho3 hg3 _
    simp only [↓vsd, vsn, gW, qd, qv, ev, pick, argE, zipE, ne_eq, eq_self, forall_const, implies_true, if_true, if_false, reduceIte, reduceCtorEq, Nat.reduceEqDiff, Nat.reduceAdd, Nat.reduceLT, ↓us_lmarkIntS, r_lmarkIntS]
    exact ⟨inR_i64 (by omega), inR_i64 (by omega), UpTo.next hlt ⟨rfl, ho3.to (set_marksI l k i hlt), grown_trans hg hg3⟩⟩
  · obtain rfl : i = l.length := by omega
    have hltI : ¬ (l.length : Int) < l.length := by omega
    simp only [↓vsd, vsn, gW, qd, qv, ev, pick, argE, zipE, ne_eq, eq_self, forall_const, implies_true, if_true, if_false, reduceIte, reduceCtorEq, Nat.reduceEqDiff, Nat.reduceAdd, Nat.reduceLT, ↓us_lmarkIntS, r_lmarkIntS, ho.sq.facts, hlen, hltI]
    exact ⟨ho.to (by simp), hg⟩
theorem lheldIntS_ok (v : Value) (n k : Nat) (hl : n ≤ 1000000000) (hk : k ≤ 1000000000) (w : World) (h : Sq fI 1 w v (marksI k n)) :
    Fn 60 [v, .int .i64 k] w (fun v' w' => v' = .int .i64 (k + n : Nat)) := by
  (refine callsV_of mix Try.func60 c_lheldIntS ?_; simp only [↓vsd, vsn, gW, qd, qv, ev, pick, argE, zipE, ne_eq, eq_self, forall_const, implies_true, if_true, if_false, reduceIte, reduceCtorEq, Nat.reduceEqDiff, Nat.reduceAdd, Nat.reduceLT, ↓us_lheldIntS, r_lheldIntS])
  refine m_upto n (fun i vs w' => vs = [.int .i64 (k + i : Nat), .int .i64 i] ∧ Ext w w') ⟨rfl, Ext.refl _⟩ ?_
  rintro i vs w1 hi ⟨rfl, hx⟩
  have hq := h.ext hx
  by_cases hlt : i < n
  · have hltI : (i : Int) < n := by omega
    have hltJ : ¬ (n : Int) ≤ i := by omega
    have hlt' : i < (marksI k n).length := by rw [marksI_len]; exact hlt
    have ha := hq.at1 0 hlt'
    have hgt := marksI_get k n i hlt
    simp only [↓vsd, vsn, gW, qd, qv, ev, pick, argE, zipE, ne_eq, eq_self, forall_const, implies_true, if_true, if_false, reduceIte, reduceCtorEq, Nat.reduceEqDiff, Nat.reduceAdd, Nat.reduceLT, ↓us_lheldIntS, r_lheldIntS, hq.facts, marksI_len, hltI, hltJ, ha, hgt]
    exact ⟨by omega, inR_i64 (by omega), inR_i64 (by omega), UpTo.next hlt ⟨rfl, hx⟩⟩
  · obtain rfl : i = n := by omega
    have hltI : ¬ (i : Int) < i := by omega
    simp only [↓vsd, vsn, gW, qd, qv, ev, pick, argE, zipE, ne_eq, eq_self, forall_const, implies_true, if_true, if_false, reduceIte, reduceCtorEq, Nat.reduceEqDiff, Nat.reduceAdd, Nat.reduceLT, ↓us_lheldIntS, r_lheldIntS, hq.facts, marksI_len, hltI]
    exact hx
theorem lmarkMethod_ok (nm : List UInt8) (st : Int) (v : Value) (cs : List (List UInt8)) (B k : Nat) (hl : cs.length ≤ 1000000000) (hk : k ≤ 1000000000) (w : World) (h : Own fS 1 9 B w v cs) :
    CallsV Try.prog 57 [mV nm st v, .int .i64 k] w (fun v' w' => v' = .int .i64 (k + cs.length : Nat) ∧ Own fS 1 9 B w' v (marksL k cs.length) ∧ w.grownBy w' v.ownBlock) := by
  (refine callsV_of mix Try.func57 c_lmarkMethod ?_; simp only [↓vsd, vsn, gW, qd, qv, ev, pick, argE, zipE, ne_eq, eq_self, forall_const, implies_true, if_true, if_false, reduceIte, reduceCtorEq, Nat.reduceEqDiff, Nat.reduceAdd, Nat.reduceLT, ↓us_lmarkMethod, r_lmarkMethod])
  refine m_al ?_
  rintro b1 w1 hb1 hblk1 hx1 hs1
  have h1 : Blk w1 b1 (fM nm st v) 41 := hblk1
  simp only [↓vsd, vsn, gW, qd, qv, ev, pick, argE, zipE, ne_eq, eq_self, forall_const, implies_true, if_true, if_false, reduceIte, reduceCtorEq, Nat.reduceEqDiff, Nat.reduceAdd, Nat.reduceLT, ↓us_lmarkMethod, r_lmarkMethod, h1.facts, fMg]
  refine m_callw (.inl rfl) (lmarkStringS_ok v cs B k hl hk _ (h.ext hx1)) ?_
  rintro _ w2 ⟨rfl, ho2, hg2⟩
  simp only [↓vsd, vsn, gW, qd, qv, ev, pick, argE, zipE, ne_eq, eq_self, forall_const, implies_true, if_true, if_false, reduceIte, reduceCtorEq, Nat.reduceEqDiff, Nat.reduceAdd, Nat.reduceLT, ↓us_lmarkMethod, r_lmarkMethod]
  exact ⟨ho2, grown_trans (grown_ext _ hx1) hg2⟩
end Go.Proofs.Ytpnopboffalfnaa
