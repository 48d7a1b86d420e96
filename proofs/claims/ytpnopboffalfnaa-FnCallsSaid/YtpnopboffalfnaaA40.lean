/-
  Called leads: the method, the row of a call, its order, the bells moved; of both sides.
  Conditions: none.
-/
import Derived.Test.YtpnopboffalfnaaA37
import Derived.Test.YtpnopboffalfnaaD7
import Derived.Test.YtpnopboffalfnaaD3
import Derived.Test.YtpnopboffalfnaaPt
import Derived.Test.YtpnopboffalfnaaD10
set_option linter.unusedSimpArgs false
set_option linter.unusedVariables false
set_option linter.defProp false
namespace Go.Proofs.Ytpnopboffalfnaa
open Go Go.RowKit
section
variable (P : Program) (k : KT) (e : Env) (w : World)
abbrev b122_1 : X := (.cond (.t 16) (.seq (.reg [6, 7] (.c (.q 17 [] (.bld [(S []), (.int .i64 0), (.slice none 0 0)] [])) (.c (.e none [] (.st 3 (.t 6) (.t 17))) (.c (.q 7 [] (.mv (.c (.bool false)))) .nil)))) .ret) .skip)
def t122_1 := b122_1
theorem u122_1 : vcK P t122_1 k e w = vcK P b122_1 k e w := rfl
abbrev b122_2 : X := (.seq (.reg [6, 7] (.c (.q 18 [] (.lda 3 (.t 3))) (.c (.q 19 [] (.lda 2 (.t 4))) (.c (.q 20 [] (.mv (.t 2))) (.c (.e (some 21) [] (.call false 246 [(.t 18), (.t 19), (.t 20)])) (.c (.e none [] (.st 3 (.t 6) (.t 21))) (.c (.q 7 [] (.mv (.c (.bool true)))) .nil))))))) .ret)
def t122_2 := b122_2
theorem u122_2 : vcK P t122_2 k e w = vcK P b122_2 k e w := rfl
abbrev b122_3 : X := (.seq (.seq (.reg [2, 3, 4, 6, 16] (.c (.q 8 [] (.lda 3 (.t 3))) (.c (.q 9 [] (.lda 2 (.t 4))) (.c (.e (some 10) [] (.call false 131 [(.t 8), (.t 9)])) (.c (.q 11 [] (.not (.t 10))) (.c (.q 12 [] (.mv (.t 11))) (.c (.q 13 [(12, false)] (.mv (.t 2))) (.c (.e (some 14) [(12, false)] (.call false 245 [(.t 13)])) (.c (.q 15 [(12, false)] (.not (.t 14))) (.c (.q 16 [] (.pick (.t 12) (.c (.bool true)) (.t 15))) .nil)))))))))) t122_1) t122_2)
def t122_3 := b122_3
theorem u122_3 : vcK P t122_3 k e w = vcK P b122_3 k e w := rfl
abbrev b122_0 : X := (.seq (.reg [2, 3, 4, 6] (.c (.e (some 3) [] (.box 41 (.t 0))) (.c (.e (some 4) [] (.box 32 (.t 1))) (.c (.e (some 6) [] (.al 41 [(S []), (.int .i64 0), (.slice none 0 0)])) (.c (.q 7 [] (.mv (.c (.bool false)))) .nil))))) t122_3)
def x_iCalledLead := b122_0
theorem u122_0 : vcK P x_iCalledLead k e w = vcK P b122_0 k e w := rfl
def r_iCalledLead : List XO := [(.lda 3 (.t 6)), (.mv (.t 7))]
theorem c_iCalledLead : convF Try.prog [169, 170, 207, 208, 210, 227, 232, 233, 255, 259, 268, 269, 270, 280, 281, 296, 299, 306, 307, 309] Try.f122 [([2, 3, 4, 6], []), ([2, 3, 4, 6, 16], []), ([6, 7], []), ([6, 7], [])] = some (x_iCalledLead, r_iCalledLead) := by kernel_rfl
def us_iCalledLead := aI @u122_0 (aI @u122_1 (aI @u122_2 @u122_3))
abbrev b123_1 : X := (.cond (.t 13) (.seq (.reg [6, 7] (.c (.q 14 [] (.bld [(S []), (.int .i64 0), (.slice none 0 0)] [])) (.c (.e none [] (.st 3 (.t 6) (.t 14))) (.c (.q 7 [] (.mv (.c (.bool false)))) .nil)))) .ret) .skip)
def t123_1 := b123_1
theorem u123_1 : vcK P t123_1 k e w = vcK P b123_1 k e w := rfl
abbrev b123_2 : X := (.seq (.reg [6, 7] (.c (.q 28 [] (.lda 3 (.t 8))) (.c (.e none [] (.st 3 (.t 6) (.t 28))) (.c (.q 7 [] (.mv (.c (.bool true)))) .nil)))) .ret)
def t123_2 := b123_2
theorem u123_2 : vcK P t123_2 k e w = vcK P b123_2 k e w := rfl
abbrev b123_3 : X := (.seq (.drw [6, 8] (.c (.q 17 [] (.fa 2 (.t 8))) (.c (.q 18 [] (.ld (.t 17))) (.c (.q 19 [] (.fa 2 (.t 8))) (.c (.q 20 [] (.ld (.t 19))) (.c (.q 21 [] (.lens (.t 20))) (.c (.q 22 [] (.bin .sub (.t 21) (.c (.int .i64 1)))) (.c (.q 23 [] (.lda 3 (.t 3))) (.c (.q 24 [] (.lda 2 (.t 4))) (.c (.q 25 [] (.mv (.t 2))) (.c (.e (some 26) [] (.call false 247 [(.t 23), (.t 24), (.t 25)])) (.c (.q 27 [] (.ia 1 (.t 18) (.t 22))) (.c (.e none [] (.st 1 (.t 27) (.t 26))) .nil))))))))))))) t123_2)
def t123_3 := b123_3
theorem u123_3 : vcK P t123_3 k e w = vcK P b123_3 k e w := rfl
abbrev b123_4 : X := (.seq (.reg [2, 3, 4, 6, 8] (.c (.q 15 [] (.lda 3 (.t 3))) (.c (.e (some 16) [] (.call false 188 [(.t 15)])) (.c (.e (some 8) [] (.al 41 [(S []), (.int .i64 0), (.slice none 0 0)])) (.c (.e none [] (.st 3 (.t 8) (.t 16))) .nil))))) t123_3)
def t123_4 := b123_4
theorem u123_4 : vcK P t123_4 k e w = vcK P b123_4 k e w := rfl
abbrev b123_5 : X := (.seq (.seq (.reg [2, 3, 4, 6, 13] (.c (.q 9 [] (.lda 3 (.t 3))) (.c (.q 10 [] (.lda 2 (.t 4))) (.c (.q 11 [] (.mv (.t 2))) (.c (.e (some 12) [] (.call false 219 [(.t 9), (.t 10), (.t 11)])) (.c (.q 13 [] (.not (.t 12))) .nil)))))) t123_1) t123_4)
def t123_5 := b123_5
theorem u123_5 : vcK P t123_5 k e w = vcK P b123_5 k e w := rfl
abbrev b123_0 : X := (.seq (.reg [2, 3, 4, 6] (.c (.e (some 3) [] (.box 41 (.t 0))) (.c (.e (some 4) [] (.box 32 (.t 1))) (.c (.e (some 6) [] (.al 41 [(S []), (.int .i64 0), (.slice none 0 0)])) (.c (.q 7 [] (.mv (.c (.bool false)))) .nil))))) t123_5)
def x_sCalledLead := b123_0
theorem u123_0 : vcK P x_sCalledLead k e w = vcK P b123_0 k e w := rfl
def r_sCalledLead : List XO := [(.lda 3 (.t 6)), (.mv (.t 7))]
theorem c_sCalledLead : convF Try.prog [169, 170, 207, 208, 210, 227, 232, 233, 255, 259, 268, 269, 270, 280, 281, 296, 299, 306, 307, 309] Try.f123 [([2, 3, 4, 6], []), ([2, 3, 4, 6, 13], []), ([6, 7], []), ([2, 3, 4, 6, 8], []), ([6, 8], []), ([6, 7], [])] = some (x_sCalledLead, r_sCalledLead) := by kernel_rfl
def us_sCalledLead := aI @u123_0 (aI @u123_1 (aI @u123_2 (aI @u123_3 (aI @u123_4 @u123_5))))
abbrev b249_1 : X := (.seq (.drw [6] (.c (.q 7 [] (.lda 3 (.t 3))) (.c (.q 10 [] (.lda 3 (.t 3))) (.c (.q 11 [] (.lda 2 (.t 4))) (.c (.q 12 [] (.mv (.t 2))) (.c (.e (some 8) [] (.call false 176 [(.t 7)])) (.c (.e (some 9) [] (.call false 182 [(.t 8)])) (.c (.e (some 13) [] (.call false 248 [(.t 10), (.t 11), (.t 12)])) (.c (.e (some 14) [] (.call false 183 [(.t 9), (.t 13)])) (.c (.q 6 [] (.mv (.t 14))) .nil)))))))))) .ret)
def t249_1 := b249_1
theorem u249_1 : vcK P t249_1 k e w = vcK P b249_1 k e w := rfl
abbrev b249_0 : X := (.seq (.reg [2, 3, 4] (.c (.e (some 3) [] (.box 41 (.t 0))) (.c (.e (some 4) [] (.box 32 (.t 1))) (.c (.q 6 [] (.mv (.s []))) .nil)))) t249_1)
def x_icallRow := b249_0
theorem u249_0 : vcK P x_icallRow k e w = vcK P b249_0 k e w := rfl
def r_icallRow : List XO := [(.mv (.t 6))]
theorem c_icallRow : convF Try.prog [169, 170, 207, 208, 210, 227, 232, 233, 255, 259, 268, 269, 270, 280, 281, 296, 299, 306, 307, 309] Try.f249 [([2, 3, 4], []), ([6], [])] = some (x_icallRow, r_icallRow) := by kernel_rfl
def us_icallRow := aI @u249_0 @u249_1
abbrev b125_1 : X := (.cond (.t 16) (.seq (.reg [6, 7] (.c (.q 6 [] (.mv (.s []))) (.c (.q 7 [] (.mv (.c (.bool false)))) .nil))) .ret) .skip)
def t125_1 := b125_1
theorem u125_1 : vcK P t125_1 k e w = vcK P b125_1 k e w := rfl
abbrev b125_2 : X := (.seq (.reg [6, 7] (.c (.q 17 [] (.lda 3 (.t 3))) (.c (.q 18 [] (.lda 2 (.t 4))) (.c (.q 19 [] (.mv (.t 2))) (.c (.e (some 20) [] (.call false 249 [(.t 17), (.t 18), (.t 19)])) (.c (.q 6 [] (.mv (.t 20))) (.c (.q 7 [] (.mv (.c (.bool true)))) .nil))))))) .ret)
def t125_2 := b125_2
theorem u125_2 : vcK P t125_2 k e w = vcK P b125_2 k e w := rfl
abbrev b125_3 : X := (.seq (.seq (.reg [2, 3, 4, 16] (.c (.q 8 [] (.lda 3 (.t 3))) (.c (.q 9 [] (.lda 2 (.t 4))) (.c (.e (some 10) [] (.call false 131 [(.t 8), (.t 9)])) (.c (.q 11 [] (.not (.t 10))) (.c (.q 12 [] (.mv (.t 11))) (.c (.q 13 [(12, false)] (.mv (.t 2))) (.c (.e (some 14) [(12, false)] (.call false 245 [(.t 13)])) (.c (.q 15 [(12, false)] (.not (.t 14))) (.c (.q 16 [] (.pick (.t 12) (.c (.bool true)) (.t 15))) .nil)))))))))) t125_1) t125_2)
def t125_3 := b125_3
theorem u125_3 : vcK P t125_3 k e w = vcK P b125_3 k e w := rfl
abbrev b125_0 : X := (.seq (.reg [2, 3, 4] (.c (.e (some 3) [] (.box 41 (.t 0))) (.c (.e (some 4) [] (.box 32 (.t 1))) (.c (.q 6 [] (.mv (.s []))) (.c (.q 7 [] (.mv (.c (.bool false)))) .nil))))) t125_3)
def x_iCallRow := b125_0
theorem u125_0 : vcK P x_iCallRow k e w = vcK P b125_0 k e w := rfl
def r_iCallRow : List XO := [(.mv (.t 6)), (.mv (.t 7))]
theorem c_iCallRow : convF Try.prog [169, 170, 207, 208, 210, 227, 232, 233, 255, 259, 268, 269, 270, 280, 281, 296, 299, 306, 307, 309] Try.f125 [([2, 3, 4], []), ([2, 3, 4, 16], []), ([6, 7], []), ([6, 7], [])] = some (x_iCallRow, r_iCallRow) := by kernel_rfl
def us_iCallRow := aI @u125_0 (aI @u125_1 (aI @u125_2 @u125_3))
abbrev b250_1 : X := (.seq (.drw [6] (.c (.q 7 [] (.lda 3 (.t 3))) (.c (.q 10 [] (.lda 3 (.t 3))) (.c (.q 11 [] (.lda 2 (.t 4))) (.c (.q 12 [] (.mv (.t 2))) (.c (.e (some 8) [] (.call false 240 [(.t 7)])) (.c (.e (some 9) [] (.call false 305 [(.t 8)])) (.c (.e (some 13) [] (.call false 220 [(.t 10), (.t 11), (.t 12)])) (.c (.e (some 14) [] (.call false 222 [(.t 9), (.t 13)])) (.c (.q 6 [] (.mv (.t 14))) .nil)))))))))) .ret)
def t250_1 := b250_1
theorem u250_1 : vcK P t250_1 k e w = vcK P b250_1 k e w := rfl
abbrev b250_0 : X := (.seq (.reg [2, 3, 4] (.c (.e (some 3) [] (.box 41 (.t 0))) (.c (.e (some 4) [] (.box 32 (.t 1))) (.c (.q 6 [] (.mv (.s []))) .nil)))) t250_1)
def x_sl8Row := b250_0
theorem u250_0 : vcK P x_sl8Row k e w = vcK P b250_0 k e w := rfl
def r_sl8Row : List XO := [(.mv (.t 6))]
theorem c_sl8Row : convF Try.prog [169, 170, 207, 208, 210, 227, 232, 233, 255, 259, 268, 269, 270, 280, 281, 296, 299, 306, 307, 309] Try.f250 [([2, 3, 4], []), ([6], [])] = some (x_sl8Row, r_sl8Row) := by kernel_rfl
def us_sl8Row := aI @u250_0 @u250_1
abbrev b126_1 : X := (.cond (.t 12) (.seq (.reg [6, 7] (.c (.q 6 [] (.mv (.s []))) (.c (.q 7 [] (.mv (.c (.bool false)))) .nil))) .ret) .skip)
def t126_1 := b126_1
theorem u126_1 : vcK P t126_1 k e w = vcK P b126_1 k e w := rfl
abbrev b126_2 : X := (.seq (.reg [6, 7] (.c (.q 13 [] (.lda 3 (.t 3))) (.c (.q 14 [] (.lda 2 (.t 4))) (.c (.q 15 [] (.mv (.t 2))) (.c (.e (some 16) [] (.call false 250 [(.t 13), (.t 14), (.t 15)])) (.c (.q 6 [] (.mv (.t 16))) (.c (.q 7 [] (.mv (.c (.bool true)))) .nil))))))) .ret)
def t126_2 := b126_2
theorem u126_2 : vcK P t126_2 k e w = vcK P b126_2 k e w := rfl
abbrev b126_3 : X := (.seq (.seq (.reg [2, 3, 4, 12] (.c (.q 8 [] (.lda 3 (.t 3))) (.c (.q 9 [] (.lda 2 (.t 4))) (.c (.q 10 [] (.mv (.t 2))) (.c (.e (some 11) [] (.call false 219 [(.t 8), (.t 9), (.t 10)])) (.c (.q 12 [] (.not (.t 11))) .nil)))))) t126_1) t126_2)
def t126_3 := b126_3
theorem u126_3 : vcK P t126_3 k e w = vcK P b126_3 k e w := rfl
abbrev b126_0 : X := (.seq (.reg [2, 3, 4] (.c (.e (some 3) [] (.box 41 (.t 0))) (.c (.e (some 4) [] (.box 32 (.t 1))) (.c (.q 6 [] (.mv (.s []))) (.c (.q 7 [] (.mv (.c (.bool false)))) .nil))))) t126_3)
def x_sCallRow := b126_0
theorem u126_0 : vcK P x_sCallRow k e w = vcK P b126_0 k e w := rfl
def r_sCallRow : List XO := [(.mv (.t 6)), (.mv (.t 7))]
theorem c_sCallRow : convF Try.prog [169, 170, 207, 208, 210, 227, 232, 233, 255, 259, 268, 269, 270, 280, 281, 296, 299, 306, 307, 309] Try.f126 [([2, 3, 4], []), ([2, 3, 4, 12], []), ([6, 7], []), ([6, 7], [])] = some (x_sCallRow, r_sCallRow) := by kernel_rfl
def us_sCallRow := aI @u126_0 (aI @u126_1 (aI @u126_2 @u126_3))
abbrev b127_1 : X := (.cond (.t 16) (.seq (.reg [6, 7] (.c (.q 6 [] (.mv (.c (.int .i64 0)))) (.c (.q 7 [] (.mv (.c (.bool false)))) .nil))) .ret) .skip)
def t127_1 := b127_1
theorem u127_1 : vcK P t127_1 k e w = vcK P b127_1 k e w := rfl
abbrev b127_2 : X := (.seq (.reg [6, 7] (.c (.q 17 [] (.lda 3 (.t 3))) (.c (.q 18 [] (.lda 2 (.t 4))) (.c (.q 19 [] (.mv (.t 2))) (.c (.e (some 20) [] (.call false 249 [(.t 17), (.t 18), (.t 19)])) (.c (.e (some 21) [] (.call false 184 [(.t 20)])) (.c (.q 22 [] (.lens (.t 21))) (.c (.q 6 [] (.mv (.t 22))) (.c (.q 7 [] (.mv (.c (.bool true)))) .nil))))))))) .ret)
def t127_2 := b127_2
theorem u127_2 : vcK P t127_2 k e w = vcK P b127_2 k e w := rfl
abbrev b127_3 : X := (.seq (.seq (.reg [2, 3, 4, 16] (.c (.q 8 [] (.lda 3 (.t 3))) (.c (.q 9 [] (.lda 2 (.t 4))) (.c (.e (some 10) [] (.call false 131 [(.t 8), (.t 9)])) (.c (.q 11 [] (.not (.t 10))) (.c (.q 12 [] (.mv (.t 11))) (.c (.q 13 [(12, false)] (.mv (.t 2))) (.c (.e (some 14) [(12, false)] (.call false 245 [(.t 13)])) (.c (.q 15 [(12, false)] (.not (.t 14))) (.c (.q 16 [] (.pick (.t 12) (.c (.bool true)) (.t 15))) .nil)))))))))) t127_1) t127_2)
def t127_3 := b127_3
theorem u127_3 : vcK P t127_3 k e w = vcK P b127_3 k e w := rfl
abbrev b127_0 : X := (.seq (.reg [2, 3, 4] (.c (.e (some 3) [] (.box 41 (.t 0))) (.c (.e (some 4) [] (.box 32 (.t 1))) (.c (.q 6 [] (.mv (.c (.int .i64 0)))) (.c (.q 7 [] (.mv (.c (.bool false)))) .nil))))) t127_3)
def x_iCallOrder := b127_0
theorem u127_0 : vcK P x_iCallOrder k e w = vcK P b127_0 k e w := rfl
def r_iCallOrder : List XO := [(.mv (.t 6)), (.mv (.t 7))]
theorem c_iCallOrder : convF Try.prog [169, 170, 207, 208, 210, 227, 232, 233, 255, 259, 268, 269, 270, 280, 281, 296, 299, 306, 307, 309] Try.f127 [([2, 3, 4], []), ([2, 3, 4, 16], []), ([6, 7], []), ([6, 7], [])] = some (x_iCallOrder, r_iCallOrder) := by kernel_rfl
def us_iCallOrder := aI @u127_0 (aI @u127_1 (aI @u127_2 @u127_3))
abbrev b128_1 : X := (.cond (.t 12) (.seq (.reg [6, 7] (.c (.q 6 [] (.mv (.c (.int .i64 0)))) (.c (.q 7 [] (.mv (.c (.bool false)))) .nil))) .ret) .skip)
def t128_1 := b128_1
theorem u128_1 : vcK P t128_1 k e w = vcK P b128_1 k e w := rfl
abbrev b128_2 : X := (.seq (.reg [6, 7] (.c (.q 13 [] (.lda 3 (.t 3))) (.c (.q 14 [] (.lda 2 (.t 4))) (.c (.q 15 [] (.mv (.t 2))) (.c (.e (some 16) [] (.call false 250 [(.t 13), (.t 14), (.t 15)])) (.c (.e (some 17) [] (.call false 239 [(.t 16)])) (.c (.q 6 [] (.mv (.t 17))) (.c (.q 7 [] (.mv (.c (.bool true)))) .nil)))))))) .ret)
def t128_2 := b128_2
theorem u128_2 : vcK P t128_2 k e w = vcK P b128_2 k e w := rfl
abbrev b128_3 : X := (.seq (.seq (.reg [2, 3, 4, 12] (.c (.q 8 [] (.lda 3 (.t 3))) (.c (.q 9 [] (.lda 2 (.t 4))) (.c (.q 10 [] (.mv (.t 2))) (.c (.e (some 11) [] (.call false 219 [(.t 8), (.t 9), (.t 10)])) (.c (.q 12 [] (.not (.t 11))) .nil)))))) t128_1) t128_2)
def t128_3 := b128_3
theorem u128_3 : vcK P t128_3 k e w = vcK P b128_3 k e w := rfl
abbrev b128_0 : X := (.seq (.reg [2, 3, 4] (.c (.e (some 3) [] (.box 41 (.t 0))) (.c (.e (some 4) [] (.box 32 (.t 1))) (.c (.q 6 [] (.mv (.c (.int .i64 0)))) (.c (.q 7 [] (.mv (.c (.bool false)))) .nil))))) t128_3)
def x_sCallOrder := b128_0
theorem u128_0 : vcK P x_sCallOrder k e w = vcK P b128_0 k e w := rfl
def r_sCallOrder : List XO := [(.mv (.t 6)), (.mv (.t 7))]
theorem c_sCallOrder : convF Try.prog [169, 170, 207, 208, 210, 227, 232, 233, 255, 259, 268, 269, 270, 280, 281, 296, 299, 306, 307, 309] Try.f128 [([2, 3, 4], []), ([2, 3, 4, 12], []), ([6, 7], []), ([6, 7], [])] = some (x_sCallOrder, r_sCallOrder) := by kernel_rfl
def us_sCallOrder := aI @u128_0 (aI @u128_1 (aI @u128_2 @u128_3))
abbrev b129_1 : X := (.cond (.t 16) (.seq (.reg [6, 7] (.c (.q 6 [] (.mv (.c (.slice none 0 0)))) (.c (.q 7 [] (.mv (.c (.bool false)))) .nil))) .ret) .skip)
def t129_1 := b129_1
theorem u129_1 : vcK P t129_1 k e w = vcK P b129_1 k e w := rfl
abbrev b129_2 : X := (.seq (.drw [6, 7] (.c (.q 17 [] (.lda 3 (.t 3))) (.c (.q 18 [] (.lda 2 (.t 4))) (.c (.q 19 [] (.mv (.t 2))) (.c (.q 21 [] (.fa 1 (.t 3))) (.c (.q 22 [] (.ld (.t 21))) (.c (.e (some 20) [] (.call false 249 [(.t 17), (.t 18), (.t 19)])) (.c (.e (some 23) [] (.call false 178 [(.t 22)])) (.c (.e (some 24) [] (.call false 251 [(.t 20), (.t 23)])) (.c (.q 6 [] (.mv (.t 24))) (.c (.q 7 [] (.mv (.c (.bool true)))) .nil))))))))))) .ret)
def t129_2 := b129_2
theorem u129_2 : vcK P t129_2 k e w = vcK P b129_2 k e w := rfl
abbrev b129_3 : X := (.seq (.seq (.reg [2, 3, 4, 16] (.c (.q 8 [] (.lda 3 (.t 3))) (.c (.q 9 [] (.lda 2 (.t 4))) (.c (.e (some 10) [] (.call false 131 [(.t 8), (.t 9)])) (.c (.q 11 [] (.not (.t 10))) (.c (.q 12 [] (.mv (.t 11))) (.c (.q 13 [(12, false)] (.mv (.t 2))) (.c (.e (some 14) [(12, false)] (.call false 245 [(.t 13)])) (.c (.q 15 [(12, false)] (.not (.t 14))) (.c (.q 16 [] (.pick (.t 12) (.c (.bool true)) (.t 15))) .nil)))))))))) t129_1) t129_2)
def t129_3 := b129_3
theorem u129_3 : vcK P t129_3 k e w = vcK P b129_3 k e w := rfl
abbrev b129_0 : X := (.seq (.reg [2, 3, 4] (.c (.e (some 3) [] (.box 41 (.t 0))) (.c (.e (some 4) [] (.box 32 (.t 1))) (.c (.q 6 [] (.mv (.c (.slice none 0 0)))) (.c (.q 7 [] (.mv (.c (.bool false)))) .nil))))) t129_3)
def x_iMovedBells := b129_0
theorem u129_0 : vcK P x_iMovedBells k e w = vcK P b129_0 k e w := rfl
def r_iMovedBells : List XO := [(.mv (.t 6)), (.mv (.t 7))]
theorem c_iMovedBells : convF Try.prog [169, 170, 207, 208, 210, 227, 232, 233, 255, 259, 268, 269, 270, 280, 281, 296, 299, 306, 307, 309] Try.f129 [([2, 3, 4], []), ([2, 3, 4, 16], []), ([6, 7], []), ([6, 7], [])] = some (x_iMovedBells, r_iMovedBells) := by kernel_rfl
def us_iMovedBells := aI @u129_0 (aI @u129_1 (aI @u129_2 @u129_3))
abbrev b251_1 : X := (.cond (.t 19) (.reg [0, 1, 5, 9, 10] (.c (.q 20 [] (.mv (.t 5))) (.c (.q 21 [] (.mv (.t 6))) (.c (.q 22 [] (.bin .add (.t 21) (.c (.int .i64 1)))) (.c (.e (some 23) [] (.bsl 3 1 [(.t 22)])) (.c (.e (some 24) [] (.app 69 3 1 8 [(.int .i64 0)] 69 (.t 20) (.t 23))) (.c (.q 5 [] (.mv (.t 24))) .nil))))))) .skip)
def t251_1 := b251_1
theorem u251_1 : vcK P t251_1 k e w = vcK P b251_1 k e w := rfl
abbrev b251_2 : X := (.seq (.drw [0, 1, 5, 6, 9, 10, 19] (.c (.q 13 [] (.mv (.t 0))) (.c (.q 14 [] (.mv (.t 6))) (.c (.q 15 [] (.idx (.t 13) (.t 14))) (.c (.q 16 [] (.mv (.t 1))) (.c (.q 17 [] (.mv (.t 6))) (.c (.q 18 [] (.idx (.t 16) (.t 17))) (.c (.q 19 [] (.bin .neq (.t 15) (.t 18))) .nil)))))))) t251_1)
def t251_2 := b251_2
theorem u251_2 : vcK P t251_2 k e w = vcK P b251_2 k e w := rfl
abbrev b251_3 : X := (.reg [0, 1, 5, 9, 10] (.c (.q 25 [] (.bin .add (.t 10) (.c (.int .i64 1)))) (.c (.q 10 [] (.mv (.t 25))) .nil)))
def t251_3 := b251_3
theorem u251_3 : vcK P t251_3 k e w = vcK P b251_3 k e w := rfl
abbrev b251_4 : X := (.seq (.blk 1 (.seq (.reg [0, 1, 5, 6, 9, 10] (.c (.q 12 [] (.mv (.t 10))) (.c (.q 6 [] (.mv (.t 12))) .nil))) t251_2)) t251_3)
def t251_4 := b251_4
theorem u251_4 : vcK P t251_4 k e w = vcK P b251_4 k e w := rfl
abbrev b251_5 : X := (.seq (.cond (.t 11) .skip (.exit 0)) t251_4)
def t251_5 := b251_5
theorem u251_5 : vcK P t251_5 k e w = vcK P b251_5 k e w := rfl
abbrev b251_6 : X := (.seq (.reg [0, 1, 5, 9, 10, 11] (.c (.q 11 [] (.bin .lss (.t 10) (.t 9))) .nil)) t251_5)
def t251_6 := b251_6
theorem u251_6 : vcK P t251_6 k e w = vcK P b251_6 k e w := rfl
abbrev b251_7 : X := (.blk 0 (.loop [5, 10] [0, 1, 9] t251_6))
def t251_7 := b251_7
theorem u251_7 : vcK P t251_7 k e w = vcK P b251_7 k e w := rfl
abbrev b251_8 : X := (.seq (.reg [4] (.c (.q 26 [] (.mv (.t 5))) (.c (.q 4 [] (.mv (.t 26))) .nil))) .ret)
def t251_8 := b251_8
theorem u251_8 : vcK P t251_8 k e w = vcK P b251_8 k e w := rfl
abbrev b251_9 : X := (.seq (.seq (.reg [0, 1, 5, 9, 10] (.c (.q 8 [] (.mv (.t 0))) (.c (.q 9 [] (.len (.t 8))) (.c (.q 10 [] (.mv (.c (.int .i64 0)))) .nil)))) t251_7) t251_8)
def t251_9 := b251_9
theorem u251_9 : vcK P t251_9 k e w = vcK P b251_9 k e w := rfl
abbrev b251_10 : X := (.seq (.reg [0, 1, 5] (.c (.e (some 7) [] (.bsl 3 1 [])) (.c (.q 5 [] (.mv (.t 7))) .nil))) t251_9)
def t251_10 := b251_10
theorem u251_10 : vcK P t251_10 k e w = vcK P b251_10 k e w := rfl
abbrev b251_0 : X := (.seq (.reg [0, 1] (.c (.q 4 [] (.mv (.c (.slice none 0 0)))) .nil)) t251_10)
def x_idiffering := b251_0
theorem u251_0 : vcK P x_idiffering k e w = vcK P b251_0 k e w := rfl
def r_idiffering : List XO := [(.mv (.t 4))]
theorem c_idiffering : convF Try.prog [169, 170, 207, 208, 210, 227, 232, 233, 255, 259, 268, 269, 270, 280, 281, 296, 299, 306, 307, 309] Try.f251 [([0, 1], []), ([0, 1, 5], []), ([0, 1, 5, 9, 10], []), ([5, 10], [0, 1, 9]), ([0, 1, 5, 9, 10, 11], []), ([0, 1, 5, 6, 9, 10], []), ([0, 1, 5, 6, 9, 10, 19], []), ([0, 1, 5, 9, 10], []), ([0, 1, 5, 9, 10], []), ([4], [])] = some (x_idiffering, r_idiffering) := by kernel_rfl
def us_idiffering := aI @u251_0 (aI @u251_1 (aI @u251_2 (aI @u251_3 (aI @u251_4 (aI @u251_5 (aI @u251_6 (aI @u251_7 (aI @u251_8 (aI @u251_9 @u251_10)))))))))
abbrev b130_1 : X := (.cond (.t 15) (.seq (.reg [6, 7] (.c (.q 6 [] (.mv (.c (.slice none 0 0)))) (.c (.q 7 [] (.mv (.c (.bool false)))) .nil))) .ret) .skip)
def t130_1 := b130_1
theorem u130_1 : vcK P t130_1 k e w = vcK P b130_1 k e w := rfl
abbrev b130_2 : X := (.cond (.t 23) .skip (.exit 0))
def t130_2 := b130_2
theorem u130_2 : vcK P t130_2 k e w = vcK P b130_2 k e w := rfl
abbrev b130_3 : X := (.cond (.t 30) (.reg [8, 9, 10] (.c (.q 31 [] (.mv (.t 9))) (.c (.q 32 [] (.mv (.t 10))) (.c (.e (some 33) [] (.bsl 3 1 [(.t 32)])) (.c (.e (some 34) [] (.app 69 3 1 8 [(.int .i64 0)] 69 (.t 31) (.t 33))) (.c (.q 9 [] (.mv (.t 34))) .nil)))))) .skip)
def t130_3 := b130_3
theorem u130_3 : vcK P t130_3 k e w = vcK P b130_3 k e w := rfl
abbrev b130_4 : X := (.reg [8, 9, 10] (.c (.q 24 [] (.mv (.t 10))) (.c (.q 25 [] (.bin .add (.t 24) (.c (.int .i64 1)))) (.c (.q 10 [] (.mv (.t 25))) .nil))))
def t130_4 := b130_4
theorem u130_4 : vcK P t130_4 k e w = vcK P b130_4 k e w := rfl
abbrev b130_5 : X := (.seq (.blk 1 (.seq (.reg [8, 9, 10, 30] (.c (.q 26 [] (.mv (.t 8))) (.c (.q 27 [] (.mv (.t 10))) (.c (.e (some 28) [] (.call false 252 [(.t 26), (.t 27)])) (.c (.q 29 [] (.mv (.t 10))) (.c (.q 30 [] (.bin .neq (.t 28) (.t 29))) .nil)))))) t130_3)) t130_4)
def t130_5 := b130_5
theorem u130_5 : vcK P t130_5 k e w = vcK P b130_5 k e w := rfl
abbrev b130_6 : X := (.seq (.seq (.reg [8, 9, 10, 23] (.c (.q 20 [] (.mv (.t 10))) (.c (.q 21 [] (.mv (.t 8))) (.c (.q 22 [] (.len (.t 21))) (.c (.q 23 [] (.bin .leq (.t 20) (.t 22))) .nil))))) t130_2) t130_5)
def t130_6 := b130_6
theorem u130_6 : vcK P t130_6 k e w = vcK P b130_6 k e w := rfl
abbrev b130_7 : X := (.blk 0 (.loop [9, 10] [8] t130_6))
def t130_7 := b130_7
theorem u130_7 : vcK P t130_7 k e w = vcK P b130_7 k e w := rfl
abbrev b130_8 : X := (.seq (.reg [6, 7] (.c (.q 35 [] (.mv (.t 9))) (.c (.q 6 [] (.mv (.t 35))) (.c (.q 7 [] (.mv (.c (.bool true)))) .nil)))) .ret)
def t130_8 := b130_8
theorem u130_8 : vcK P t130_8 k e w = vcK P b130_8 k e w := rfl
abbrev b130_9 : X := (.seq (.seq (.reg [8, 9, 10] (.c (.q 10 [] (.mv (.c (.int .i64 1)))) .nil)) t130_7) t130_8)
def t130_9 := b130_9
theorem u130_9 : vcK P t130_9 k e w = vcK P b130_9 k e w := rfl
abbrev b130_10 : X := (.seq (.reg [8, 9] (.c (.q 9 [] (.mv (.c (.slice none 0 0)))) .nil)) t130_9)
def t130_10 := b130_10
theorem u130_10 : vcK P t130_10 k e w = vcK P b130_10 k e w := rfl
abbrev b130_11 : X := (.seq (.reg [8] (.c (.q 16 [] (.lda 3 (.t 3))) (.c (.q 17 [] (.lda 2 (.t 4))) (.c (.q 18 [] (.mv (.t 2))) (.c (.e (some 19) [] (.call false 250 [(.t 16), (.t 17), (.t 18)])) (.c (.q 8 [] (.mv (.t 19))) .nil)))))) t130_10)
def t130_11 := b130_11
theorem u130_11 : vcK P t130_11 k e w = vcK P b130_11 k e w := rfl
abbrev b130_12 : X := (.seq (.seq (.reg [2, 3, 4, 15] (.c (.q 11 [] (.lda 3 (.t 3))) (.c (.q 12 [] (.lda 2 (.t 4))) (.c (.q 13 [] (.mv (.t 2))) (.c (.e (some 14) [] (.call false 219 [(.t 11), (.t 12), (.t 13)])) (.c (.q 15 [] (.not (.t 14))) .nil)))))) t130_1) t130_11)
def t130_12 := b130_12
theorem u130_12 : vcK P t130_12 k e w = vcK P b130_12 k e w := rfl
abbrev b130_0 : X := (.seq (.reg [2, 3, 4] (.c (.e (some 3) [] (.box 41 (.t 0))) (.c (.e (some 4) [] (.box 32 (.t 1))) (.c (.q 6 [] (.mv (.c (.slice none 0 0)))) (.c (.q 7 [] (.mv (.c (.bool false)))) .nil))))) t130_12)
def x_sMovedBells := b130_0
theorem u130_0 : vcK P x_sMovedBells k e w = vcK P b130_0 k e w := rfl
def r_sMovedBells : List XO := [(.mv (.t 6)), (.mv (.t 7))]
theorem c_sMovedBells : convF Try.prog [169, 170, 207, 208, 210, 227, 232, 233, 255, 259, 268, 269, 270, 280, 281, 296, 299, 306, 307, 309] Try.f130 [([2, 3, 4], []), ([2, 3, 4, 15], []), ([6, 7], []), ([8], []), ([8, 9], []), ([8, 9, 10], []), ([9, 10], [8]), ([8, 9, 10, 23], []), ([8, 9, 10, 30], []), ([8, 9, 10], []), ([8, 9, 10], []), ([6, 7], [])] = some (x_sMovedBells, r_sMovedBells) := by kernel_rfl
def us_sMovedBells := aI @u130_0 (aI @u130_1 (aI @u130_2 (aI @u130_3 (aI @u130_4 (aI @u130_5 (aI @u130_6 (aI @u130_7 (aI @u130_8 (aI @u130_9 (aI @u130_10 (aI @u130_11 @u130_12)))))))))))
abbrev b136_1 : X := (.cond (.t 23) (.seq (.reg [8, 9] (.c (.q 8 [] (.mv (.c (.bool false)))) (.c (.q 9 [] (.mv (.c (.bool false)))) .nil))) .ret) .skip)
def t136_1 := b136_1
theorem u136_1 : vcK P t136_1 k e w = vcK P b136_1 k e w := rfl
abbrev b136_2 : X := (.seq (.drw [8, 9] (.c (.q 24 [] (.lda 3 (.t 4))) (.c (.q 25 [] (.lda 2 (.t 5))) (.c (.q 26 [] (.mv (.t 2))) (.c (.q 28 [] (.lda 3 (.t 4))) (.c (.q 29 [] (.lda 2 (.t 5))) (.c (.q 30 [] (.mv (.t 3))) (.c (.e (some 27) [] (.call false 248 [(.t 24), (.t 25), (.t 26)])) (.c (.e (some 31) [] (.call false 248 [(.t 28), (.t 29), (.t 30)])) (.c (.q 32 [] (.bin .eql (.t 27) (.t 31))) (.c (.q 8 [] (.mv (.t 32))) (.c (.q 9 [] (.mv (.c (.bool true)))) .nil)))))))))))) .ret)
def t136_2 := b136_2
theorem u136_2 : vcK P t136_2 k e w = vcK P b136_2 k e w := rfl
abbrev b136_3 : X := (.seq (.seq (.reg [2, 3, 4, 5, 23] (.c (.q 10 [] (.lda 3 (.t 4))) (.c (.q 11 [] (.lda 2 (.t 5))) (.c (.e (some 12) [] (.call false 131 [(.t 10), (.t 11)])) (.c (.q 13 [] (.not (.t 12))) (.c (.q 14 [] (.mv (.t 13))) (.c (.q 15 [(14, false)] (.mv (.t 2))) (.c (.e (some 16) [(14, false)] (.call false 245 [(.t 15)])) (.c (.q 17 [(14, false)] (.not (.t 16))) (.c (.q 18 [] (.pick (.t 14) (.c (.bool true)) (.t 17))) (.c (.q 19 [] (.mv (.t 18))) (.c (.q 20 [(19, false)] (.mv (.t 3))) (.c (.e (some 21) [(19, false)] (.call false 245 [(.t 20)])) (.c (.q 22 [(19, false)] (.not (.t 21))) (.c (.q 23 [] (.pick (.t 19) (.c (.bool true)) (.t 22))) .nil))))))))))))))) t136_1) t136_2)
def t136_3 := b136_3
theorem u136_3 : vcK P t136_3 k e w = vcK P b136_3 k e w := rfl
abbrev b136_0 : X := (.seq (.reg [2, 3, 4, 5] (.c (.e (some 4) [] (.box 41 (.t 0))) (.c (.e (some 5) [] (.box 32 (.t 1))) (.c (.q 8 [] (.mv (.c (.bool false)))) (.c (.q 9 [] (.mv (.c (.bool false)))) .nil))))) t136_3)
def x_iSameLead := b136_0
theorem u136_0 : vcK P x_iSameLead k e w = vcK P b136_0 k e w := rfl
def r_iSameLead : List XO := [(.mv (.t 8)), (.mv (.t 9))]
theorem c_iSameLead : convF Try.prog [169, 170, 207, 208, 210, 227, 232, 233, 255, 259, 268, 269, 270, 280, 281, 296, 299, 306, 307, 309] Try.f136 [([2, 3, 4, 5], []), ([2, 3, 4, 5, 23], []), ([8, 9], []), ([8, 9], [])] = some (x_iSameLead, r_iSameLead) := by kernel_rfl
def us_iSameLead := aI @u136_0 (aI @u136_1 (aI @u136_2 @u136_3))
abbrev b137_1 : X := (.cond (.t 19) (.seq (.reg [8, 9] (.c (.q 8 [] (.mv (.c (.bool false)))) (.c (.q 9 [] (.mv (.c (.bool false)))) .nil))) .ret) .skip)
def t137_1 := b137_1
theorem u137_1 : vcK P t137_1 k e w = vcK P b137_1 k e w := rfl
abbrev b137_2 : X := (.seq (.drw [8, 9] (.c (.q 20 [] (.lda 3 (.t 4))) (.c (.q 21 [] (.lda 2 (.t 5))) (.c (.q 22 [] (.mv (.t 2))) (.c (.q 24 [] (.lda 3 (.t 4))) (.c (.q 25 [] (.lda 2 (.t 5))) (.c (.q 26 [] (.mv (.t 3))) (.c (.e (some 23) [] (.call false 220 [(.t 20), (.t 21), (.t 22)])) (.c (.e (some 27) [] (.call false 220 [(.t 24), (.t 25), (.t 26)])) (.c (.q 28 [] (.bin .eql (.t 23) (.t 27))) (.c (.q 8 [] (.mv (.t 28))) (.c (.q 9 [] (.mv (.c (.bool true)))) .nil)))))))))))) .ret)
def t137_2 := b137_2
theorem u137_2 : vcK P t137_2 k e w = vcK P b137_2 k e w := rfl
abbrev b137_3 : X := (.seq (.seq (.reg [2, 3, 4, 5, 19] (.c (.q 10 [] (.lda 3 (.t 4))) (.c (.q 11 [] (.lda 2 (.t 5))) (.c (.q 12 [] (.mv (.t 2))) (.c (.e (some 13) [] (.call false 219 [(.t 10), (.t 11), (.t 12)])) (.c (.q 14 [] (.not (.t 13))) (.c (.q 15 [] (.mv (.t 14))) (.c (.q 16 [(15, false)] (.mv (.t 3))) (.c (.e (some 17) [(15, false)] (.call false 256 [(.t 16)])) (.c (.q 18 [(15, false)] (.not (.t 17))) (.c (.q 19 [] (.pick (.t 15) (.c (.bool true)) (.t 18))) .nil))))))))))) t137_1) t137_2)
def t137_3 := b137_3
theorem u137_3 : vcK P t137_3 k e w = vcK P b137_3 k e w := rfl
abbrev b137_0 : X := (.seq (.reg [2, 3, 4, 5] (.c (.e (some 4) [] (.box 41 (.t 0))) (.c (.e (some 5) [] (.box 32 (.t 1))) (.c (.q 8 [] (.mv (.c (.bool false)))) (.c (.q 9 [] (.mv (.c (.bool false)))) .nil))))) t137_3)
def x_sSameLead := b137_0
theorem u137_0 : vcK P x_sSameLead k e w = vcK P b137_0 k e w := rfl
def r_sSameLead : List XO := [(.mv (.t 8)), (.mv (.t 9))]
theorem c_sSameLead : convF Try.prog [169, 170, 207, 208, 210, 227, 232, 233, 255, 259, 268, 269, 270, 280, 281, 296, 299, 306, 307, 309] Try.f137 [([2, 3, 4, 5], []), ([2, 3, 4, 5, 19], []), ([8, 9], []), ([8, 9], [])] = some (x_sSameLead, r_sSameLead) := by kernel_rfl
def us_sSameLead := aI @u137_0 (aI @u137_1 (aI @u137_2 @u137_3))
abbrev b138_1 : X := (.cond (.t 9) (.seq (.reg [4, 5] (.c (.q 4 [] (.mv (.c (.slice none 0 0)))) (.c (.q 5 [] (.mv (.c (.bool false)))) .nil))) .ret) .skip)
def t138_1 := b138_1
theorem u138_1 : vcK P t138_1 k e w = vcK P b138_1 k e w := rfl
abbrev b138_2 : X := (.seq (.reg [4, 5] (.c (.q 10 [] (.lda 3 (.t 2))) (.c (.q 11 [] (.lda 2 (.t 3))) (.c (.e (some 12) [] (.call false 257 [(.t 10), (.t 11)])) (.c (.q 4 [] (.mv (.t 12))) (.c (.q 5 [] (.mv (.c (.bool true)))) .nil)))))) .ret)
def t138_2 := b138_2
theorem u138_2 : vcK P t138_2 k e w = vcK P b138_2 k e w := rfl
abbrev b138_3 : X := (.seq (.seq (.reg [2, 3, 9] (.c (.q 6 [] (.lda 3 (.t 2))) (.c (.q 7 [] (.lda 2 (.t 3))) (.c (.e (some 8) [] (.call false 131 [(.t 6), (.t 7)])) (.c (.q 9 [] (.not (.t 8))) .nil))))) t138_1) t138_2)
def t138_3 := b138_3
theorem u138_3 : vcK P t138_3 k e w = vcK P b138_3 k e w := rfl
abbrev b138_0 : X := (.seq (.reg [2, 3] (.c (.e (some 2) [] (.box 41 (.t 0))) (.c (.e (some 3) [] (.box 32 (.t 1))) (.c (.q 4 [] (.mv (.c (.slice none 0 0)))) (.c (.q 5 [] (.mv (.c (.bool false)))) .nil))))) t138_3)
def x_iCallHeads := b138_0
theorem u138_0 : vcK P x_iCallHeads k e w = vcK P b138_0 k e w := rfl
def r_iCallHeads : List XO := [(.mv (.t 4)), (.mv (.t 5))]
theorem c_iCallHeads : convF Try.prog [169, 170, 207, 208, 210, 227, 232, 233, 255, 259, 268, 269, 270, 280, 281, 296, 299, 306, 307, 309] Try.f138 [([2, 3], []), ([2, 3, 9], []), ([4, 5], []), ([4, 5], [])] = some (x_iCallHeads, r_iCallHeads) := by kernel_rfl
def us_iCallHeads := aI @u138_0 (aI @u138_1 (aI @u138_2 @u138_3))
abbrev b257_1 : X := (.seq (.drw [4] (.c (.q 5 [] (.lda 3 (.t 2))) (.c (.q 6 [] (.lda 2 (.t 3))) (.c (.q 8 [] (.lda 3 (.t 2))) (.c (.q 9 [] (.lda 2 (.t 3))) (.c (.q 11 [] (.lda 3 (.t 2))) (.c (.q 12 [] (.lda 2 (.t 3))) (.c (.e (some 7) [] (.call false 248 [(.t 5), (.t 6), (.s [112])])) (.c (.e (some 10) [] (.call false 248 [(.t 8), (.t 9), (.s [98])])) (.c (.e (some 13) [] (.call false 248 [(.t 11), (.t 12), (.s [115])])) (.c (.e (some 14) [] (.bsl 9 1 [(.t 7), (.t 10), (.t 13)])) (.c (.q 4 [] (.mv (.t 14))) .nil)))))))))))) .ret)
def t257_1 := b257_1
theorem u257_1 : vcK P t257_1 k e w = vcK P b257_1 k e w := rfl
abbrev b257_0 : X := (.seq (.reg [2, 3] (.c (.e (some 2) [] (.box 41 (.t 0))) (.c (.e (some 3) [] (.box 32 (.t 1))) (.c (.q 4 [] (.mv (.c (.slice none 0 0)))) .nil)))) t257_1)
def x_icallHeads := b257_0
theorem u257_0 : vcK P x_icallHeads k e w = vcK P b257_0 k e w := rfl
def r_icallHeads : List XO := [(.mv (.t 4))]
theorem c_icallHeads : convF Try.prog [169, 170, 207, 208, 210, 227, 232, 233, 255, 259, 268, 269, 270, 280, 281, 296, 299, 306, 307, 309] Try.f257 [([2, 3], []), ([4], [])] = some (x_icallHeads, r_icallHeads) := by kernel_rfl
def us_icallHeads := aI @u257_0 @u257_1
abbrev b139_1 : X := (.cond (.t 9) (.seq (.reg [4, 5] (.c (.q 4 [] (.mv (.c (.slice none 0 0)))) (.c (.q 5 [] (.mv (.c (.bool false)))) .nil))) .ret) .skip)
def t139_1 := b139_1
theorem u139_1 : vcK P t139_1 k e w = vcK P b139_1 k e w := rfl
abbrev b139_2 : X := (.seq (.drw [4, 5] (.c (.q 10 [] (.lda 3 (.t 2))) (.c (.q 11 [] (.lda 2 (.t 3))) (.c (.q 13 [] (.lda 3 (.t 2))) (.c (.q 14 [] (.lda 2 (.t 3))) (.c (.q 16 [] (.lda 3 (.t 2))) (.c (.q 17 [] (.lda 2 (.t 3))) (.c (.e (some 12) [] (.call false 220 [(.t 10), (.t 11), (.s [112])])) (.c (.e (some 15) [] (.call false 220 [(.t 13), (.t 14), (.s [98])])) (.c (.e (some 18) [] (.call false 220 [(.t 16), (.t 17), (.s [115])])) (.c (.e (some 19) [] (.bsl 9 1 [(.t 12), (.t 15), (.t 18)])) (.c (.q 4 [] (.mv (.t 19))) (.c (.q 5 [] (.mv (.c (.bool true)))) .nil))))))))))))) .ret)
def t139_2 := b139_2
theorem u139_2 : vcK P t139_2 k e w = vcK P b139_2 k e w := rfl
abbrev b139_3 : X := (.seq (.seq (.reg [2, 3, 9] (.c (.q 6 [] (.lda 3 (.t 2))) (.c (.q 7 [] (.lda 2 (.t 3))) (.c (.e (some 8) [] (.call false 253 [(.t 6), (.t 7)])) (.c (.q 9 [] (.not (.t 8))) .nil))))) t139_1) t139_2)
def t139_3 := b139_3
theorem u139_3 : vcK P t139_3 k e w = vcK P b139_3 k e w := rfl
abbrev b139_0 : X := (.seq (.reg [2, 3] (.c (.e (some 2) [] (.box 41 (.t 0))) (.c (.e (some 3) [] (.box 32 (.t 1))) (.c (.q 4 [] (.mv (.c (.slice none 0 0)))) (.c (.q 5 [] (.mv (.c (.bool false)))) .nil))))) t139_3)
def x_sCallHeads := b139_0
theorem u139_0 : vcK P x_sCallHeads k e w = vcK P b139_0 k e w := rfl
def r_sCallHeads : List XO := [(.mv (.t 4)), (.mv (.t 5))]
theorem c_sCallHeads : convF Try.prog [169, 170, 207, 208, 210, 227, 232, 233, 255, 259, 268, 269, 270, 280, 281, 296, 299, 306, 307, 309] Try.f139 [([2, 3], []), ([2, 3, 9], []), ([4, 5], []), ([4, 5], [])] = some (x_sCallHeads, r_sCallHeads) := by kernel_rfl
def us_sCallHeads := aI @u139_0 (aI @u139_1 (aI @u139_2 @u139_3))
abbrev b132_1 : X := (.seq (.reg [4] (.c (.q 5 [] (.lda 3 (.t 2))) (.c (.q 6 [] (.lda 2 (.t 3))) (.c (.e (some 7) [] (.call false 253 [(.t 5), (.t 6)])) (.c (.q 4 [] (.mv (.t 7))) .nil))))) .ret)
def t132_1 := b132_1
theorem u132_1 : vcK P t132_1 k e w = vcK P b132_1 k e w := rfl
abbrev b132_0 : X := (.seq (.reg [2, 3] (.c (.e (some 2) [] (.box 41 (.t 0))) (.c (.e (some 3) [] (.box 32 (.t 1))) (.c (.q 4 [] (.mv (.c (.bool false)))) .nil)))) t132_1)
def x_sGoodCalls := b132_0
theorem u132_0 : vcK P x_sGoodCalls k e w = vcK P b132_0 k e w := rfl
def r_sGoodCalls : List XO := [(.mv (.t 4))]
theorem c_sGoodCalls : convF Try.prog [169, 170, 207, 208, 210, 227, 232, 233, 255, 259, 268, 269, 270, 280, 281, 296, 299, 306, 307, 309] Try.f132 [([2, 3], []), ([4], [])] = some (x_sGoodCalls, r_sGoodCalls) := by kernel_rfl
def us_sGoodCalls := aI @u132_0 @u132_1
abbrev b188_1 : X := (.seq (.drw [2] (.c (.q 3 [] (.fa 0 (.t 1))) (.c (.q 4 [] (.ld (.t 3))) (.c (.q 5 [] (.fa 1 (.t 1))) (.c (.q 6 [] (.ld (.t 5))) (.c (.q 7 [] (.fa 2 (.t 1))) (.c (.q 8 [] (.ld (.t 7))) (.c (.e (some 9) [] (.call false 283 [(.t 8)])) (.c (.q 10 [] (.bld [(S []), (.int .i64 0), (.slice none 0 0)] [(0, 0, (.t 4)), (1, 0, (.t 6)), (2, 0, (.t 9))])) (.c (.e none [] (.st 3 (.t 2) (.t 10))) .nil)))))))))) .ret)
def t188_1 := b188_1
theorem u188_1 : vcK P t188_1 k e w = vcK P b188_1 k e w := rfl
abbrev b188_0 : X := (.seq (.reg [1, 2] (.c (.e (some 1) [] (.box 41 (.t 0))) (.c (.e (some 2) [] (.al 41 [(S []), (.int .i64 0), (.slice none 0 0)])) .nil))) t188_1)
def x_sl4Own := b188_0
theorem u188_0 : vcK P x_sl4Own k e w = vcK P b188_0 k e w := rfl
def r_sl4Own : List XO := [(.lda 3 (.t 2))]
theorem c_sl4Own : convF Try.prog [169, 170, 207, 208, 210, 227, 232, 233, 255, 259, 268, 269, 270, 280, 281, 296, 299, 306, 307, 309] Try.f188 [([1, 2], []), ([2], [])] = some (x_sl4Own, r_sl4Own) := by kernel_rfl
def us_sl4Own := aI @u188_0 @u188_1
end

theorem Own.lit40 {α : Type} {f : α → List Value} {z E B n : Nat} {w : World} {b : Nat} {cs : List Value} (l : List α) (hz : ∀ a, (f a).length = z) (hb : Blk w b cs E) (e : cs = l.flatMap f) (hn : n = l.length) (hB : B ≤ b) (hm : n ≤ 1000) : Own f z E B w (.slice (some ⟨b, 0, none⟩) n n) l := by
  subst e; subst hn
  exact ⟨hz, .inr ⟨b, l.length, l.flatMap f, rfl, hB, hb, Nat.le_refl _, by unfold maxLen; omega, flat_len hz l, by rw [← flat_len hz l, List.take_length]⟩⟩
/-- The row of a call. -/
def rowC (st : Nat) (cs : List (List UInt8)) (b s call : List UInt8) : List UInt8 := timesL (turnL (underL (roundsL st) cs)) (headC st cs b s call)
theorem rowC_row {nm : List UInt8} {st : Nat} {cs : List (List UInt8)} {b s : List UInt8} (h : IsMC nm st cs b s) (call : List UInt8) : IsRow (rowC st cs b s call) ∧ (rowC st cs b s call).length = st := by
  have h8 : 3 ≤ st ∧ st ≤ 8 := by have := h.1.2.1; omega
  have hu := under_row h8 cs
  have hh := headC_row h call
  exact ⟨timesL_row (turnL_row hu.1) hh.1 (by rw [turnL_len, hu.2, hh.2]), by rw [rowC, timesL_len, hh.2]⟩
theorem icallRow_ok (nm : List UInt8) (st : Nat) (v : Value) (cs : List (List UInt8)) (b s call : List UInt8) (hm : IsMC nm st cs b s) (w : World) (h : Sq fS 1 w v cs) : Fn 249 [mV nm st v, kV b s, S call] w (fun r _ => r = S (rowC st cs b s call)) := by
  have h8 : 3 ≤ st ∧ st ≤ 8 := by have := hm.1.2.1; omega
  have hu := under_row h8 cs
  have hh := headC_row hm call
  (refine callsV_of mix Try.func249 c_icallRow ?_; simp only [↓vsd, vsn, gW, qd, qv, ev, pick, argE, zipE, ne_eq, eq_self, forall_const, implies_true, if_true, if_false, reduceIte, reduceCtorEq, Nat.reduceEqDiff, Nat.reduceAdd, Nat.reduceLT, ↓us_icallRow, r_icallRow])
  refine m_al ?_
  rintro b1 w1 hb1 hblk1 hx1 hs1
  have h1 : Blk w1 b1 (fM nm st v) 41 := hblk1
  simp only [↓vsd, vsn, gW, qd, qv, ev, pick, argE, zipE, ne_eq, eq_self, forall_const, implies_true, if_true, if_false, reduceIte, reduceCtorEq, Nat.reduceEqDiff, Nat.reduceAdd, Nat.reduceLT, ↓us_icallRow, r_icallRow, h1.facts, fMg]
  refine m_al ?_
  rintro b2 w2 hb2 hblk2 hx2 hs2
  have h2 : Blk w2 b2 (fQ b s) 32 := hblk2
  have h12 := h1.ext hx2
  have hx12 := hx1.trans hx2
  simp only [↓vsd, vsn, gW, qd, qv, ev, pick, argE, zipE, ne_eq, eq_self, forall_const, implies_true, if_true, if_false, reduceIte, reduceCtorEq, Nat.reduceEqDiff, Nat.reduceAdd, Nat.reduceLT, ↓us_icallRow, r_icallRow, h12.facts, h2.facts, fMg, fQg]
  refine m_call (ileadHead_ok nm st v cs hm.1 _ (by first | exact h.ext hx12 | exact h.ext (dr hx12))) ?_
  rintro _ w3 hx3 rfl
  have hx3 : Ext w2 w3 := by first | exact hx3 | exact ud hx3 | exact ud (ud hx3)
  have h13 := h12.ext hx3
  have h23 := h2.ext hx3
  have hx13 := hx12.trans hx3
  simp only [↓vsd, vsn, gW, qd, qv, ev, pick, argE, zipE, ne_eq, eq_self, forall_const, implies_true, if_true, if_false, reduceIte, reduceCtorEq, Nat.reduceEqDiff, Nat.reduceAdd, Nat.reduceLT, ↓us_icallRow, r_icallRow, h13.facts, h23.facts, fMg, fQg]
  refine m_call (iturned_ok _ hu.1 _) ?_
  rintro _ w4 hx4 rfl
  have hx4 : Ext w3 w4 := by first | exact hx4 | exact ud hx4 | exact ud (ud hx4)
  have h14 := h13.ext hx4
  have h24 := h23.ext hx4
  have hx14 := hx13.trans hx4
  simp only [↓vsd, vsn, gW, qd, qv, ev, pick, argE, zipE, ne_eq, eq_self, forall_const, implies_true, if_true, if_false, reduceIte, reduceCtorEq, Nat.reduceEqDiff, Nat.reduceAdd, Nat.reduceLT, ↓us_icallRow, r_icallRow, h14.facts, h24.facts, fMg, fQg]
  refine m_call (icallHead_ok nm st v cs b s call hm _ (by first | exact h.ext hx14 | exact h.ext (dr hx14))) ?_
  rintro _ w5 hx5 rfl
  have hx5 : Ext w4 w5 := by first | exact hx5 | exact ud hx5 | exact ud (ud hx5)
  simp only [↓vsd, vsn, gW, qd, qv, ev, pick, argE, zipE, ne_eq, eq_self, forall_const, implies_true, if_true, if_false, reduceIte, reduceCtorEq, Nat.reduceEqDiff, Nat.reduceAdd, Nat.reduceLT, ↓us_icallRow, r_icallRow]
  refine m_call (itimes_ok _ _ hh.1 (by rw [turnL_len, hh.2]; exact hu.2) _) ?_
  rintro _ w6 hx6 rfl
  have hx6 : Ext w5 w6 := by first | exact hx6 | exact ud hx6 | exact ud (ud hx6)
  simp only [↓vsd, vsn, gW, qd, qv, ev, pick, argE, zipE, ne_eq, eq_self, forall_const, implies_true, if_true, if_false, reduceIte, reduceCtorEq, Nat.reduceEqDiff, Nat.reduceAdd, Nat.reduceLT, ↓us_icallRow, r_icallRow]
  exact ⟨(hx14.trans hx5).trans hx6, rfl⟩
theorem sl8Row_ok (nm : List UInt8) (st : Nat) (v : Value) (cs : List (List UInt8)) (b s call : List UInt8) (hm : IsMC nm st cs b s) (w : World) (h : Sq fS 1 w v cs) : Fn 250 [mV nm st v, kV b s, S call] w (fun r _ => r = S (rowC st cs b s call)) := by
  have h8 : 3 ≤ st ∧ st ≤ 8 := by have := hm.1.2.1; omega
  have hu := under_row h8 cs
  have hh := headC_row hm call
  (refine callsV_of mix Try.func250 c_sl8Row ?_; simp only [↓vsd, vsn, gW, qd, qv, ev, pick, argE, zipE, ne_eq, eq_self, forall_const, implies_true, if_true, if_false, reduceIte, reduceCtorEq, Nat.reduceEqDiff, Nat.reduceAdd, Nat.reduceLT, ↓us_sl8Row, r_sl8Row])
  refine m_al ?_
  rintro b1 w1 hb1 hblk1 hx1 hs1
  have h1 : Blk w1 b1 (fM nm st v) 41 := hblk1
  simp only [↓vsd, vsn, gW, qd, qv, ev, pick, argE, zipE, ne_eq, eq_self, forall_const, implies_true, if_true, if_false, reduceIte, reduceCtorEq, Nat.reduceEqDiff, Nat.reduceAdd, Nat.reduceLT, ↓us_sl8Row, r_sl8Row, h1.facts, fMg]
  refine m_al ?_
  rintro b2 w2 hb2 hblk2 hx2 hs2
  have h2 : Blk w2 b2 (fQ b s) 32 := hblk2
  have h12 := h1.ext hx2
  have hx12 := hx1.trans hx2
  simp only [↓vsd, vsn, gW, qd, qv, ev, pick, argE, zipE, ne_eq, eq_self, forall_const, implies_true, if_true, if_false, reduceIte, reduceCtorEq, Nat.reduceEqDiff, Nat.reduceAdd, Nat.reduceLT, ↓us_sl8Row, r_sl8Row, h12.facts, h2.facts, fMg, fQg]
  refine m_call (sl4Head_ok nm st v cs hm.1 _ (by first | exact h.ext hx12 | exact h.ext (dr hx12))) ?_
  rintro _ w3 hx3 rfl
  have hx3 : Ext w2 w3 := by first | exact hx3 | exact ud hx3 | exact ud (ud hx3)
  have h13 := h12.ext hx3
  have h23 := h2.ext hx3
  have hx13 := hx12.trans hx3
  simp only [↓vsd, vsn, gW, qd, qv, ev, pick, argE, zipE, ne_eq, eq_self, forall_const, implies_true, if_true, if_false, reduceIte, reduceCtorEq, Nat.reduceEqDiff, Nat.reduceAdd, Nat.reduceLT, ↓us_sl8Row, r_sl8Row, h13.facts, h23.facts, fMg, fQg]
  refine m_call (sl1Turn_ok _ hu.1 _) ?_
  rintro _ w4 hx4 rfl
  have hx4 : Ext w3 w4 := by first | exact hx4 | exact ud hx4 | exact ud (ud hx4)
  have h14 := h13.ext hx4
  have h24 := h23.ext hx4
  have hx14 := hx13.trans hx4
  simp only [↓vsd, vsn, gW, qd, qv, ev, pick, argE, zipE, ne_eq, eq_self, forall_const, implies_true, if_true, if_false, reduceIte, reduceCtorEq, Nat.reduceEqDiff, Nat.reduceAdd, Nat.reduceLT, ↓us_sl8Row, r_sl8Row, h14.facts, h24.facts, fMg, fQg]
  refine m_call (sl8Head_ok nm st v cs b s call hm _ (by first | exact h.ext hx14 | exact h.ext (dr hx14))) ?_
  rintro _ w5 hx5 rfl
  have hx5 : Ext w4 w5 := by first | exact hx5 | exact ud hx5 | exact ud (ud hx5)
  simp only [↓vsd, vsn, gW, qd, qv, ev, pick, argE, zipE, ne_eq, eq_self, forall_const, implies_true, if_true, if_false, reduceIte, reduceCtorEq, Nat.reduceEqDiff, Nat.reduceAdd, Nat.reduceLT, ↓us_sl8Row, r_sl8Row]
  refine m_call (sl1Times_ok _ _ hh.1 (by rw [turnL_len, hh.2]; exact hu.2) _) ?_
  rintro _ w6 hx6 rfl
  have hx6 : Ext w5 w6 := by first | exact hx6 | exact ud hx6 | exact ud (ud hx6)
  simp only [↓vsd, vsn, gW, qd, qv, ev, pick, argE, zipE, ne_eq, eq_self, forall_const, implies_true, if_true, if_false, reduceIte, reduceCtorEq, Nat.reduceEqDiff, Nat.reduceAdd, Nat.reduceLT, ↓us_sl8Row, r_sl8Row]
  exact ⟨(hx14.trans hx5).trans hx6, rfl⟩
/-- A called lead, if one is asked. -/
def LeadC (nm : List UInt8) (st : Int) (cs : List (List UInt8)) (b s call : List UInt8) (B : Nat) (r : Value) (w' : World) : Prop :=
  if CallOk nm st cs b s call then ∃ x, r = .tuple ⟨[mV nm st x, .bool true]⟩ ∧ Own fS 1 9 B w' x (calledCs cs b s call) else r = .tuple ⟨[mV [] 0 (.slice none 0 0), .bool false]⟩
def crV (nm : List UInt8) (st : Int) (cs : List (List UInt8)) (b s call : List UInt8) : Value := if CallOk nm st cs b s call then .tuple ⟨[S (rowC st.toNat cs b s call), .bool true]⟩ else .tuple ⟨[S [], .bool false]⟩
def coV (nm : List UInt8) (st : Int) (cs : List (List UInt8)) (b s call : List UInt8) (n : Nat) : Value := if CallOk nm st cs b s call then .tuple ⟨[.int .i64 (n : Nat), .bool true]⟩ else .tuple ⟨[.int .i64 0, .bool false]⟩
/-- The places at which a row is not rounds. -/
def movedL (r : List UInt8) (k : Nat) : List Int := ((List.range k).filter fun i => decide (r.getD i 0 ≠ UInt8.ofNat (49 + i))).map fun i : Nat => ((i + 1 : Nat) : Int)
theorem movedL_succ (r : List UInt8) (k : Nat) : movedL r (k + 1) = movedL r k ++ if r.getD k 0 ≠ UInt8.ofNat (49 + k) then [((k + 1 : Nat) : Int)] else [] := by
  unfold movedL
  rw [List.range_succ, List.filter_append, List.map_append]
  congr 1
  by_cases h : r.getD k 0 ≠ UInt8.ofNat (49 + k)
  · rw [if_pos h, List.filter_cons, List.filter_nil, if_pos (decide_eq_true h)]; rfl
  · rw [if_neg h, List.filter_cons, List.filter_nil, if_neg (by rw [decide_eq_false h]; decide)]; rfl
theorem movedL_len (r : List UInt8) (k : Nat) : (movedL r k).length ≤ k := by
  unfold movedL
  rw [List.length_map]
  exact Nat.le_trans (List.length_filter_le _ _) (by simp)
def mvV (nm : List UInt8) (st : Int) (cs : List (List UInt8)) (b s call : List UInt8) : List Int := if CallOk nm st cs b s call then movedL (rowC st.toNat cs b s call) st.toNat else []
theorem idiffering_ok (r : List UInt8) (n : Nat) (hr : IsRow r) (hn : r.length = n) (w : World) : Fn 251 [S r, S (roundsL n)] w (fun v w' => Own fI 1 3 w.heap.size w' v (movedL r n)) := by
  have h8 := hr.1
  (refine callsV_of mix Try.func251 c_idiffering ?_; simp only [↓vsd, vsn, gW, qd, qv, ev, pick, argE, zipE, ne_eq, eq_self, forall_const, implies_true, if_true, if_false, reduceIte, reduceCtorEq, Nat.reduceEqDiff, Nat.reduceAdd, Nat.reduceLT, ↓us_idiffering, r_idiffering])
  refine m_bsl (by simp) ?_
  rintro b w1 hb hblk hx1 hs1
  simp only [↓vsd, vsn, gW, qd, qv, ev, pick, argE, zipE, ne_eq, eq_self, forall_const, implies_true, if_true, if_false, reduceIte, reduceCtorEq, Nat.reduceEqDiff, Nat.reduceAdd, Nat.reduceLT, ↓us_idiffering, r_idiffering]
  rw [hn]
  refine m_upto n (fun i vs w' => ∃ x, vs = [x, .int .i64 i] ∧ Own fI 1 3 w.heap.size w' x (movedL r i) ∧ Ext w w') ⟨_, rfl, (Own.empty fI_len hblk (by omega)).to rfl, hx1⟩ ?_
  rintro i vs w2 hi ⟨x, rfl, ho, hx⟩
  have hml := movedL_len r i
  by_cases hlt : i < n
  · have hltI : (i : Int) < n := by omega
    have hltJ : ¬ (n : Int) ≤ i := by omega
    have hrl := roundsL_len n
    have hg := roundsL_get n i hlt
    have hsu := movedL_succ r i
    have hn' : (r.length : Int) = n := by omega
    have h49 : (UInt8.ofNat (49 + i)).toNat = 49 + i := u8_nat (by omega)
    simp only [↓vsd, vsn, gW, qd, qv, ev, pick, argE, zipE, ne_eq, eq_self, forall_const, implies_true, if_true, if_false, reduceIte, reduceCtorEq, Nat.reduceEqDiff, Nat.reduceAdd, Nat.reduceLT, ↓us_idiffering, r_idiffering, hltI, hltJ, hrl, hg, hn', h49]
    refine ⟨by omega, by omega, fun hne => ⟨inR_i64 (by omega), m_bsl (one_el rfl) ?_⟩, fun he => ?_⟩
    · rintro b3 w3 hb3 hblk3 hx3 hs3
      have hx3 : Ext w2 w3 := by first | exact hx3 | exact ud hx3 | exact ud (ud hx3)
      simp only [↓vsd, vsn, gW, qd, qv, ev, pick, argE, zipE, ne_eq, eq_self, forall_const, implies_true, if_true, if_false, reduceIte, reduceCtorEq, Nat.reduceEqDiff, Nat.reduceAdd, Nat.reduceLT, ↓us_idiffering, r_idiffering]
      refine m_app (ho.ext hx3) (Sq.one fI_len hblk3 rfl) fI_one (by decide) (by simp; omega) (by decide) (hx.trans hx3).size ?_
      rintro y w4 ho4 hg4
      simp only [↓vsd, vsn, gW, qd, qv, ev, pick, argE, zipE, ne_eq, eq_self, forall_const, implies_true, if_true, if_false, reduceIte, reduceCtorEq, Nat.reduceEqDiff, Nat.reduceAdd, Nat.reduceLT, ↓us_idiffering, r_idiffering]
      have hne' : r.getD i 0 ≠ UInt8.ofNat (49 + i) := fun e => hne (by rw [e, h49])
      rw [if_pos hne'] at hsu
      exact ⟨inR_i64 (by omega), UpTo.next hlt ⟨y, rfl, ho4.to hsu.symm, (ho.ext hx3).grown (hx.trans hx3) (Nat.le_refl _) hg4⟩⟩
    · have he' : ¬ r.getD i 0 ≠ UInt8.ofNat (49 + i) := fun hh => hh (u8_eq (by omega))
      rw [if_neg he', List.append_nil] at hsu
      exact ⟨inR_i64 (by omega), UpTo.next hlt ⟨x, rfl, ho.to hsu.symm, by first | exact hx | exact dr hx⟩⟩
  · obtain rfl : i = n := by omega
    have hltI : ¬ (i : Int) < i := by omega
    simp only [↓vsd, vsn, gW, qd, qv, ev, pick, argE, zipE, ne_eq, eq_self, forall_const, implies_true, if_true, if_false, reduceIte, reduceCtorEq, Nat.reduceEqDiff, Nat.reduceAdd, Nat.reduceLT, ↓us_idiffering, r_idiffering, hltI]
    exact ⟨hx, ho⟩
theorem ext_grow40 {w0 w w' : World} {r : Option Nat} (hx : Ext w0 w) (hg : w.grownBy w' r) (hr : ∀ c, r = some c → w0.heap.size ≤ c) : Ext w0 w' :=
  Below.trans hx ⟨hg.os, hg.tape, hg.output, hg.size, fun i hi => hg.block i (by have := hx.size; omega) (fun e => by have := hr i e.symm; omega)⟩
theorem sl4Own_ok (nm : List UInt8) (st : Int) (v : Value) (cs : List (List UInt8)) (hcl : cs.length ≤ 1000000) (w : World) (h : Sq fS 1 w v cs) : Fn 188 [mV nm st v] w (fun r w' => ∃ x, r = mV nm st x ∧ Own fS 1 9 w.heap.size w' x cs) := by
  (refine callsV_of mix Try.func188 c_sl4Own ?_; simp only [↓vsd, vsn, gW, qd, qv, ev, pick, argE, zipE, ne_eq, eq_self, forall_const, implies_true, if_true, if_false, reduceIte, reduceCtorEq, Nat.reduceEqDiff, Nat.reduceAdd, Nat.reduceLT, ↓us_sl4Own, r_sl4Own])
  refine m_al ?_
  rintro b1 w1 hb1 hblk1 hx1 hs1
  have h1 : Blk w1 b1 (fM nm st v) 41 := hblk1
  simp only [↓vsd, vsn, gW, qd, qv, ev, pick, argE, zipE, ne_eq, eq_self, forall_const, implies_true, if_true, if_false, reduceIte, reduceCtorEq, Nat.reduceEqDiff, Nat.reduceAdd, Nat.reduceLT, ↓us_sl4Own, r_sl4Own]
  refine m_al ?_
  rintro b2 w2 hb2 hblk2 hx2 hs2
  have h2 : Blk w2 b2 (fM [] 0 (.slice none 0 0)) 41 := hblk2
  have h12 := h1.ext hx2
  have hx12 := hx1.trans hx2
  simp only [↓vsd, vsn, gW, qd, qv, ev, pick, argE, zipE, ne_eq, eq_self, forall_const, implies_true, if_true, if_false, reduceIte, reduceCtorEq, Nat.reduceEqDiff, Nat.reduceAdd, Nat.reduceLT, ↓us_sl4Own, r_sl4Own, h12.facts, fMg]
  refine m_call (sl1OwnS_ok v cs hcl _ (by first | exact h.ext hx12 | exact h.ext (dr hx12))) ?_
  rintro x w3 hx3 ho3
  have hx3 : Ext w2 w3 := by first | exact hx3 | exact ud hx3 | exact ud (ud hx3)
  have ho3 := ho3.mono (B' := w2.heap.size) (Nat.le_refl _)
  have h13 := h12.ext hx3
  have hoc : Go.Proofs.Ytpnopboffalfnaa.oneC x = True := ho3.sq.oneC
  simp only [↓vsd, vsn, gW, qd, qv, ev, pick, argE, zipE, ne_eq, eq_self, forall_const, implies_true, if_true, if_false, reduceIte, reduceCtorEq, Nat.reduceEqDiff, Nat.reduceAdd, Nat.reduceLT, ↓us_sl4Own, r_sl4Own, h12.facts, h13.facts, fMg, hoc]
  refine m_st (h2.ext hx3) rfl (Nat.le_refl 3) (fM_one nm st x ho3.sq.one') ?_
  rintro w4 hblk4 hu4
  have h4 : Blk w4 b2 (fM nm st x) 41 := hblk4
  have h2l := h2.lt
  simp only [↓vsd, vsn, gW, qd, qv, ev, pick, argE, zipE, ne_eq, eq_self, forall_const, implies_true, if_true, if_false, reduceIte, reduceCtorEq, Nat.reduceEqDiff, Nat.reduceAdd, Nat.reduceLT, ↓us_sl4Own, r_sl4Own, h4.facts, fMg]
  exact ⟨hu4.below (hx12.trans hx3) (by have := hx1.size; omega), x, rfl, (ho3.upd hu4 (ho3.away' (by omega))).mono hx12.size⟩
section
variable (nm : List UInt8) (st : Int) (v : Value) (cs : List (List UInt8)) (b s call : List UInt8) (hnm : nm.length ≤ 1048576) (hs : ∀ c ∈ cs, c.length ≤ 1048576) (hl : cs.length ≤ 1000000000) (hb : b.length ≤ 1048576 ∧ s.length ≤ 1048576)
include hnm hs hl hb
theorem iCallRow_ok (w : World) (h : Sq fS 1 w v cs) : Fn 125 [mV nm st v, kV b s, S call] w (fun r _ => r = crV nm st cs b s call) := by
  (refine callsV_of mix Try.func125 c_iCallRow ?_; simp only [↓vsd, vsn, gW, qd, qv, ev, pick, argE, zipE, ne_eq, eq_self, forall_const, implies_true, if_true, if_false, reduceIte, reduceCtorEq, Nat.reduceEqDiff, Nat.reduceAdd, Nat.reduceLT, ↓us_iCallRow, r_iCallRow])
  refine m_al ?_
  rintro b1 w1 hb1 hblk1 hx1 hs1
  have h1 : Blk w1 b1 (fM nm st v) 41 := hblk1
  simp only [↓vsd, vsn, gW, qd, qv, ev, pick, argE, zipE, ne_eq, eq_self, forall_const, implies_true, if_true, if_false, reduceIte, reduceCtorEq, Nat.reduceEqDiff, Nat.reduceAdd, Nat.reduceLT, ↓us_iCallRow, r_iCallRow, h1.facts, fMg]
  refine m_al ?_
  rintro b2 w2 hb2 hblk2 hx2 hs2
  have h2 : Blk w2 b2 (fQ b s) 32 := hblk2
  have h12 := h1.ext hx2
  have hx12 := hx1.trans hx2
  simp only [↓vsd, vsn, gW, qd, qv, ev, pick, argE, zipE, ne_eq, eq_self, forall_const, implies_true, if_true, if_false, reduceIte, reduceCtorEq, Nat.reduceEqDiff, Nat.reduceAdd, Nat.reduceLT, ↓us_iCallRow, r_iCallRow, h12.facts, h2.facts, fMg, fQg]
  refine m_call (iGoodCalls_ok nm st v cs b s hnm hs hl hb _ (by first | exact h.ext hx12 | exact h.ext (dr hx12))) ?_
  rintro _ w3 hx3 rfl
  have hx3 : Ext w2 w3 := by first | exact hx3 | exact ud hx3 | exact ud (ud hx3)
  have hx13 := hx12.trans hx3
  have h13 := h12.ext hx3
  have h23 := h2.ext hx3
  by_cases hok : CallOk nm st cs b s call
  · obtain ⟨n, rfl⟩ : ∃ n : Nat, st = n := ⟨st.toNat, by have := hok.1.1.2.1; omega⟩
    have hM := hok.1
    have hc := hok.2
    have hD := decide_eq_true hM
    simp only [↓vsd, vsn, gW, qd, qv, ev, pick, argE, zipE, ne_eq, eq_self, forall_const, implies_true, if_true, if_false, reduceIte, reduceCtorEq, Nat.reduceEqDiff, Nat.reduceAdd, Nat.reduceLT, ↓us_iCallRow, r_iCallRow, hD, h13.facts, h23.facts, fMg, fQg]
    refine m_call (iisCall_okc call _) ?_
    rintro _ w4 hx4 rfl
    have hx4 : Ext w3 w4 := by first | exact hx4 | exact ud hx4 | exact ud (ud hx4)
    have hx14 := hx13.trans hx4
    have h14 := h13.ext hx4
    have h24 := h23.ext hx4
    have hcD := decide_eq_true hc
    simp only [↓vsd, vsn, gW, qd, qv, ev, pick, argE, zipE, ne_eq, eq_self, forall_const, implies_true, if_true, if_false, reduceIte, reduceCtorEq, Nat.reduceEqDiff, Nat.reduceAdd, Nat.reduceLT, ↓us_iCallRow, r_iCallRow, hcD, h14.facts, h24.facts, h13.facts, h23.facts, fMg, fQg]
    refine m_call (icallRow_ok nm n v cs b s call hM _ (by first | exact h.ext hx14 | exact h.ext (dr hx14))) ?_
    rintro _ w5 hx5 rfl
    have hx5 : Ext w4 w5 := by first | exact hx5 | exact ud hx5 | exact ud (ud hx5)
    simp only [↓vsd, vsn, gW, qd, qv, ev, pick, argE, zipE, ne_eq, eq_self, forall_const, implies_true, if_true, if_false, reduceIte, reduceCtorEq, Nat.reduceEqDiff, Nat.reduceAdd, Nat.reduceLT, ↓us_iCallRow, r_iCallRow]
    exact ⟨hx14.trans hx5, by rw [crV, if_pos hok]; rfl⟩
  · by_cases hM : IsMC nm st cs b s
    · have hc : ¬ IsCall call := fun hh => hok ⟨hM, hh⟩
      have hD := decide_eq_true hM
      have hcD := decide_eq_false hc
      simp only [↓vsd, vsn, gW, qd, qv, ev, pick, argE, zipE, ne_eq, eq_self, forall_const, implies_true, if_true, if_false, reduceIte, reduceCtorEq, Nat.reduceEqDiff, Nat.reduceAdd, Nat.reduceLT, ↓us_iCallRow, r_iCallRow, hD, h13.facts, h23.facts, fMg, fQg]
      refine m_call (iisCall_okc call _) ?_
      rintro _ w4 hx4 rfl
      have hx4 : Ext w3 w4 := by first | exact hx4 | exact ud hx4 | exact ud (ud hx4)
      have hxE := hx13.trans hx4
      simp only [↓vsd, vsn, gW, qd, qv, ev, pick, argE, zipE, ne_eq, eq_self, forall_const, implies_true, if_true, if_false, reduceIte, reduceCtorEq, Nat.reduceEqDiff, Nat.reduceAdd, Nat.reduceLT, ↓us_iCallRow, r_iCallRow, hcD]
      exact ⟨hxE, by rw [crV, if_neg hok]⟩
    · have hD := decide_eq_false hM
      have hxE := hx13
      simp only [↓vsd, vsn, gW, qd, qv, ev, pick, argE, zipE, ne_eq, eq_self, forall_const, implies_true, if_true, if_false, reduceIte, reduceCtorEq, Nat.reduceEqDiff, Nat.reduceAdd, Nat.reduceLT, ↓us_iCallRow, r_iCallRow, hD]
      exact ⟨hxE, by rw [crV, if_neg hok]⟩
theorem sCallRow_ok (w : World) (h : Sq fS 1 w v cs) : Fn 126 [mV nm st v, kV b s, S call] w (fun r _ => r = crV nm st cs b s call) := by
  (refine callsV_of mix Try.func126 c_sCallRow ?_; simp only [↓vsd, vsn, gW, qd, qv, ev, pick, argE, zipE, ne_eq, eq_self, forall_const, implies_true, if_true, if_false, reduceIte, reduceCtorEq, Nat.reduceEqDiff, Nat.reduceAdd, Nat.reduceLT, ↓us_sCallRow, r_sCallRow])
  refine m_al ?_
  rintro b1 w1 hb1 hblk1 hx1 hs1
  have h1 : Blk w1 b1 (fM nm st v) 41 := hblk1
  simp only [↓vsd, vsn, gW, qd, qv, ev, pick, argE, zipE, ne_eq, eq_self, forall_const, implies_true, if_true, if_false, reduceIte, reduceCtorEq, Nat.reduceEqDiff, Nat.reduceAdd, Nat.reduceLT, ↓us_sCallRow, r_sCallRow, h1.facts, fMg]
  refine m_al ?_
  rintro b2 w2 hb2 hblk2 hx2 hs2
  have h2 : Blk w2 b2 (fQ b s) 32 := hblk2
  have h12 := h1.ext hx2
  have hx12 := hx1.trans hx2
  simp only [↓vsd, vsn, gW, qd, qv, ev, pick, argE, zipE, ne_eq, eq_self, forall_const, implies_true, if_true, if_false, reduceIte, reduceCtorEq, Nat.reduceEqDiff, Nat.reduceAdd, Nat.reduceLT, ↓us_sCallRow, r_sCallRow, h12.facts, h2.facts, fMg, fQg]
  refine m_call (sl8Asked_ok nm st v cs b s call hnm hs hl hb _ (by first | exact h.ext hx12 | exact h.ext (dr hx12))) ?_
  rintro _ w3 hx3 rfl
  have hx3 : Ext w2 w3 := by first | exact hx3 | exact ud hx3 | exact ud (ud hx3)
  have hx13 := hx12.trans hx3
  have h13 := h12.ext hx3
  have h23 := h2.ext hx3
  by_cases hok : CallOk nm st cs b s call
  · obtain ⟨n, rfl⟩ : ∃ n : Nat, st = n := ⟨st.toNat, by have := hok.1.1.2.1; omega⟩
    have hM := hok.1
    have hc := hok.2
    have hD : decide (IsMC nm n cs b s ∧ IsCall call) = true := decide_eq_true hok
    have hx14 := hx13
    simp only [↓vsd, vsn, gW, qd, qv, ev, pick, argE, zipE, ne_eq, eq_self, forall_const, implies_true, if_true, if_false, reduceIte, reduceCtorEq, Nat.reduceEqDiff, Nat.reduceAdd, Nat.reduceLT, ↓us_sCallRow, r_sCallRow, hD, h13.facts, h23.facts, fMg, fQg]
    refine m_call (sl8Row_ok nm n v cs b s call hM _ (by first | exact h.ext hx14 | exact h.ext (dr hx14))) ?_
    rintro _ w5 hx5 rfl
    have hx5 : Ext w3 w5 := by first | exact hx5 | exact ud hx5 | exact ud (ud hx5)
    simp only [↓vsd, vsn, gW, qd, qv, ev, pick, argE, zipE, ne_eq, eq_self, forall_const, implies_true, if_true, if_false, reduceIte, reduceCtorEq, Nat.reduceEqDiff, Nat.reduceAdd, Nat.reduceLT, ↓us_sCallRow, r_sCallRow]
    exact ⟨hx14.trans hx5, by rw [crV, if_pos hok]; rfl⟩
  · have hD : decide (IsMC nm st cs b s ∧ IsCall call) = false := decide_eq_false hok
    have hxE := hx13
    simp only [↓vsd, vsn, gW, qd, qv, ev, pick, argE, zipE, ne_eq, eq_self, forall_const, implies_true, if_true, if_false, reduceIte, reduceCtorEq, Nat.reduceEqDiff, Nat.reduceAdd, Nat.reduceLT, ↓us_sCallRow, r_sCallRow, hD]
    exact ⟨hxE, by rw [crV, if_neg hok]⟩
theorem iCallOrder_ok (k : Nat) (hk : CallOk nm st cs b s call → IsOrd (rowC st.toNat cs b s call) k) (w : World) (h : Sq fS 1 w v cs) : Fn 127 [mV nm st v, kV b s, S call] w (fun r _ => r = coV nm st cs b s call k) := by
  (refine callsV_of mix Try.func127 c_iCallOrder ?_; simp only [↓vsd, vsn, gW, qd, qv, ev, pick, argE, zipE, ne_eq, eq_self, forall_const, implies_true, if_true, if_false, reduceIte, reduceCtorEq, Nat.reduceEqDiff, Nat.reduceAdd, Nat.reduceLT, ↓us_iCallOrder, r_iCallOrder])
  refine m_al ?_
  rintro b1 w1 hb1 hblk1 hx1 hs1
  have h1 : Blk w1 b1 (fM nm st v) 41 := hblk1
  simp only [↓vsd, vsn, gW, qd, qv, ev, pick, argE, zipE, ne_eq, eq_self, forall_const, implies_true, if_true, if_false, reduceIte, reduceCtorEq, Nat.reduceEqDiff, Nat.reduceAdd, Nat.reduceLT, ↓us_iCallOrder, r_iCallOrder, h1.facts, fMg]
  refine m_al ?_
  rintro b2 w2 hb2 hblk2 hx2 hs2
  have h2 : Blk w2 b2 (fQ b s) 32 := hblk2
  have h12 := h1.ext hx2
  have hx12 := hx1.trans hx2
  simp only [↓vsd, vsn, gW, qd, qv, ev, pick, argE, zipE, ne_eq, eq_self, forall_const, implies_true, if_true, if_false, reduceIte, reduceCtorEq, Nat.reduceEqDiff, Nat.reduceAdd, Nat.reduceLT, ↓us_iCallOrder, r_iCallOrder, h12.facts, h2.facts, fMg, fQg]
  refine m_call (iGoodCalls_ok nm st v cs b s hnm hs hl hb _ (by first | exact h.ext hx12 | exact h.ext (dr hx12))) ?_
  rintro _ w3 hx3 rfl
  have hx3 : Ext w2 w3 := by first | exact hx3 | exact ud hx3 | exact ud (ud hx3)
  have hx13 := hx12.trans hx3
  have h13 := h12.ext hx3
  have h23 := h2.ext hx3
  by_cases hok : CallOk nm st cs b s call
  · obtain ⟨n, rfl⟩ : ∃ n : Nat, st = n := ⟨st.toNat, by have := hok.1.1.2.1; omega⟩
    have hM := hok.1
    have hc := hok.2
    have hD := decide_eq_true hM
    simp only [↓vsd, vsn, gW, qd, qv, ev, pick, argE, zipE, ne_eq, eq_self, forall_const, implies_true, if_true, if_false, reduceIte, reduceCtorEq, Nat.reduceEqDiff, Nat.reduceAdd, Nat.reduceLT, ↓us_iCallOrder, r_iCallOrder, hD, h13.facts, h23.facts, fMg, fQg]
    refine m_call (iisCall_okc call _) ?_
    rintro _ w4 hx4 rfl
    have hx4 : Ext w3 w4 := by first | exact hx4 | exact ud hx4 | exact ud (ud hx4)
    have hx14 := hx13.trans hx4
    have h14 := h13.ext hx4
    have h24 := h23.ext hx4
    have hcD := decide_eq_true hc
    simp only [↓vsd, vsn, gW, qd, qv, ev, pick, argE, zipE, ne_eq, eq_self, forall_const, implies_true, if_true, if_false, reduceIte, reduceCtorEq, Nat.reduceEqDiff, Nat.reduceAdd, Nat.reduceLT, ↓us_iCallOrder, r_iCallOrder, hcD, h14.facts, h24.facts, h13.facts, h23.facts, fMg, fQg]
    have hR := rowC_row hM call
    have hO := hk hok
    refine m_call (icallRow_ok nm n v cs b s call hM _ (by first | exact h.ext hx14 | exact h.ext (dr hx14))) ?_
    rintro _ w5 hx5 rfl
    have hx5 : Ext w4 w5 := by first | exact hx5 | exact ud hx5 | exact ud (ud hx5)
    simp only [↓vsd, vsn, gW, qd, qv, ev, pick, argE, zipE, ne_eq, eq_self, forall_const, implies_true, if_true, if_false, reduceIte, reduceCtorEq, Nat.reduceEqDiff, Nat.reduceAdd, Nat.reduceLT, ↓us_iCallOrder, r_iCallOrder]
    refine m_call (ipowers_ok _ k hR.1 hO _) ?_
    rintro x w6 hx6 ho6
    have hx6 : Ext w5 w6 := by first | exact hx6 | exact ud hx6 | exact ud (ud hx6)
    simp only [↓vsd, vsn, gW, qd, qv, ev, pick, argE, zipE, ne_eq, eq_self, forall_const, implies_true, if_true, if_false, reduceIte, reduceCtorEq, Nat.reduceEqDiff, Nat.reduceAdd, Nat.reduceLT, ↓us_iCallOrder, r_iCallOrder, ho6.sq.facts, List.length_map, List.length_range]
    exact ⟨(hx14.trans hx5).trans hx6, by rw [coV, if_pos hok]⟩
  · by_cases hM : IsMC nm st cs b s
    · have hc : ¬ IsCall call := fun hh => hok ⟨hM, hh⟩
      have hD := decide_eq_true hM
      have hcD := decide_eq_false hc
      simp only [↓vsd, vsn, gW, qd, qv, ev, pick, argE, zipE, ne_eq, eq_self, forall_const, implies_true, if_true, if_false, reduceIte, reduceCtorEq, Nat.reduceEqDiff, Nat.reduceAdd, Nat.reduceLT, ↓us_iCallOrder, r_iCallOrder, hD, h13.facts, h23.facts, fMg, fQg]
      refine m_call (iisCall_okc call _) ?_
      rintro _ w4 hx4 rfl
      have hx4 : Ext w3 w4 := by first | exact hx4 | exact ud hx4 | exact ud (ud hx4)
      have hxE := hx13.trans hx4
      simp only [↓vsd, vsn, gW, qd, qv, ev, pick, argE, zipE, ne_eq, eq_self, forall_const, implies_true, if_true, if_false, reduceIte, reduceCtorEq, Nat.reduceEqDiff, Nat.reduceAdd, Nat.reduceLT, ↓us_iCallOrder, r_iCallOrder, hcD]
      exact ⟨hxE, by rw [coV, if_neg hok]⟩
    · have hD := decide_eq_false hM
      have hxE := hx13
      simp only [↓vsd, vsn, gW, qd, qv, ev, pick, argE, zipE, ne_eq, eq_self, forall_const, implies_true, if_true, if_false, reduceIte, reduceCtorEq, Nat.reduceEqDiff, Nat.reduceAdd, Nat.reduceLT, ↓us_iCallOrder, r_iCallOrder, hD]
      exact ⟨hxE, by rw [coV, if_neg hok]⟩
theorem sCallOrder_ok (k : Nat) (hk : CallOk nm st cs b s call → IsOrd (rowC st.toNat cs b s call) k) (w : World) (h : Sq fS 1 w v cs) : Fn 128 [mV nm st v, kV b s, S call] w (fun r _ => r = coV nm st cs b s call k) := by
  (refine callsV_of mix Try.func128 c_sCallOrder ?_; simp only [↓vsd, vsn, gW, qd, qv, ev, pick, argE, zipE, ne_eq, eq_self, forall_const, implies_true, if_true, if_false, reduceIte, reduceCtorEq, Nat.reduceEqDiff, Nat.reduceAdd, Nat.reduceLT, ↓us_sCallOrder, r_sCallOrder])
  refine m_al ?_
  rintro b1 w1 hb1 hblk1 hx1 hs1
  have h1 : Blk w1 b1 (fM nm st v) 41 := hblk1
  simp only [↓vsd, vsn, gW, qd, qv, ev, pick, argE, zipE, ne_eq, eq_self, forall_const, implies_true, if_true, if_false, reduceIte, reduceCtorEq, Nat.reduceEqDiff, Nat.reduceAdd, Nat.reduceLT, ↓us_sCallOrder, r_sCallOrder, h1.facts, fMg]
  refine m_al ?_
  rintro b2 w2 hb2 hblk2 hx2 hs2
  have h2 : Blk w2 b2 (fQ b s) 32 := hblk2
  have h12 := h1.ext hx2
  have hx12 := hx1.trans hx2
  simp only [↓vsd, vsn, gW, qd, qv, ev, pick, argE, zipE, ne_eq, eq_self, forall_const, implies_true, if_true, if_false, reduceIte, reduceCtorEq, Nat.reduceEqDiff, Nat.reduceAdd, Nat.reduceLT, ↓us_sCallOrder, r_sCallOrder, h12.facts, h2.facts, fMg, fQg]
  refine m_call (sl8Asked_ok nm st v cs b s call hnm hs hl hb _ (by first | exact h.ext hx12 | exact h.ext (dr hx12))) ?_
  rintro _ w3 hx3 rfl
  have hx3 : Ext w2 w3 := by first | exact hx3 | exact ud hx3 | exact ud (ud hx3)
  have hx13 := hx12.trans hx3
  have h13 := h12.ext hx3
  have h23 := h2.ext hx3
  by_cases hok : CallOk nm st cs b s call
  · obtain ⟨n, rfl⟩ : ∃ n : Nat, st = n := ⟨st.toNat, by have := hok.1.1.2.1; omega⟩
    have hM := hok.1
    have hc := hok.2
    have hD : decide (IsMC nm n cs b s ∧ IsCall call) = true := decide_eq_true hok
    have hx14 := hx13
    simp only [↓vsd, vsn, gW, qd, qv, ev, pick, argE, zipE, ne_eq, eq_self, forall_const, implies_true, if_true, if_false, reduceIte, reduceCtorEq, Nat.reduceEqDiff, Nat.reduceAdd, Nat.reduceLT, ↓us_sCallOrder, r_sCallOrder, hD, h13.facts, h23.facts, fMg, fQg]
    have hR := rowC_row hM call
    have hO := hk hok
    refine m_call (sl8Row_ok nm n v cs b s call hM _ (by first | exact h.ext hx14 | exact h.ext (dr hx14))) ?_
    rintro _ w5 hx5 rfl
    have hx5 : Ext w3 w5 := by first | exact hx5 | exact ud hx5 | exact ud (ud hx5)
    simp only [↓vsd, vsn, gW, qd, qv, ev, pick, argE, zipE, ne_eq, eq_self, forall_const, implies_true, if_true, if_false, reduceIte, reduceCtorEq, Nat.reduceEqDiff, Nat.reduceAdd, Nat.reduceLT, ↓us_sCallOrder, r_sCallOrder]
    refine m_call (sl1Order_ok _ k hR.1 hO _) ?_
    rintro _ w6 hx6 rfl
    have hx6 : Ext w5 w6 := by first | exact hx6 | exact ud hx6 | exact ud (ud hx6)
    simp only [↓vsd, vsn, gW, qd, qv, ev, pick, argE, zipE, ne_eq, eq_self, forall_const, implies_true, if_true, if_false, reduceIte, reduceCtorEq, Nat.reduceEqDiff, Nat.reduceAdd, Nat.reduceLT, ↓us_sCallOrder, r_sCallOrder]
    exact ⟨(hx14.trans hx5).trans hx6, by rw [coV, if_pos hok]⟩
  · have hD : decide (IsMC nm st cs b s ∧ IsCall call) = false := decide_eq_false hok
    have hxE := hx13
    simp only [↓vsd, vsn, gW, qd, qv, ev, pick, argE, zipE, ne_eq, eq_self, forall_const, implies_true, if_true, if_false, reduceIte, reduceCtorEq, Nat.reduceEqDiff, Nat.reduceAdd, Nat.reduceLT, ↓us_sCallOrder, r_sCallOrder, hD]
    exact ⟨hxE, by rw [coV, if_neg hok]⟩
theorem iMovedBells_ok (w : World) (h : Sq fS 1 w v cs) : Fn 129 [mV nm st v, kV b s, S call] w (fun r w' => ∃ x, r = .tuple ⟨[x, .bool (decide (CallOk nm st cs b s call))]⟩ ∧ Own fI 1 3 w.heap.size w' x (mvV nm st cs b s call)) := by
  (refine callsV_of mix Try.func129 c_iMovedBells ?_; simp only [↓vsd, vsn, gW, qd, qv, ev, pick, argE, zipE, ne_eq, eq_self, forall_const, implies_true, if_true, if_false, reduceIte, reduceCtorEq, Nat.reduceEqDiff, Nat.reduceAdd, Nat.reduceLT, ↓us_iMovedBells, r_iMovedBells])
  refine m_al ?_
  rintro b1 w1 hb1 hblk1 hx1 hs1
  have h1 : Blk w1 b1 (fM nm st v) 41 := hblk1
  simp only [↓vsd, vsn, gW, qd, qv, ev, pick, argE, zipE, ne_eq, eq_self, forall_const, implies_true, if_true, if_false, reduceIte, reduceCtorEq, Nat.reduceEqDiff, Nat.reduceAdd, Nat.reduceLT, ↓us_iMovedBells, r_iMovedBells, h1.facts, fMg]
  refine m_al ?_
  rintro b2 w2 hb2 hblk2 hx2 hs2
  have h2 : Blk w2 b2 (fQ b s) 32 := hblk2
  have h12 := h1.ext hx2
  have hx12 := hx1.trans hx2
  simp only [↓vsd, vsn, gW, qd, qv, ev, pick, argE, zipE, ne_eq, eq_self, forall_const, implies_true, if_true, if_false, reduceIte, reduceCtorEq, Nat.reduceEqDiff, Nat.reduceAdd, Nat.reduceLT, ↓us_iMovedBells, r_iMovedBells, h12.facts, h2.facts, fMg, fQg]
  refine m_call (iGoodCalls_ok nm st v cs b s hnm hs hl hb _ (by first | exact h.ext hx12 | exact h.ext (dr hx12))) ?_
  rintro _ w3 hx3 rfl
  have hx3 : Ext w2 w3 := by first | exact hx3 | exact ud hx3 | exact ud (ud hx3)
  have hx13 := hx12.trans hx3
  have h13 := h12.ext hx3
  have h23 := h2.ext hx3
  by_cases hok : CallOk nm st cs b s call
  · obtain ⟨n, rfl⟩ : ∃ n : Nat, st = n := ⟨st.toNat, by have := hok.1.1.2.1; omega⟩
    have hM := hok.1
    have hc := hok.2
    have hD := decide_eq_true hM
    simp only [↓vsd, vsn, gW, qd, qv, ev, pick, argE, zipE, ne_eq, eq_self, forall_const, implies_true, if_true, if_false, reduceIte, reduceCtorEq, Nat.reduceEqDiff, Nat.reduceAdd, Nat.reduceLT, ↓us_iMovedBells, r_iMovedBells, hD, h13.facts, h23.facts, fMg, fQg]
    refine m_call (iisCall_okc call _) ?_
    rintro _ w4 hx4 rfl
    have hx4 : Ext w3 w4 := by first | exact hx4 | exact ud hx4 | exact ud (ud hx4)
    have hx14 := hx13.trans hx4
    have h14 := h13.ext hx4
    have h24 := h23.ext hx4
    have hcD := decide_eq_true hc
    simp only [↓vsd, vsn, gW, qd, qv, ev, pick, argE, zipE, ne_eq, eq_self, forall_const, implies_true, if_true, if_false, reduceIte, reduceCtorEq, Nat.reduceEqDiff, Nat.reduceAdd, Nat.reduceLT, ↓us_iMovedBells, r_iMovedBells, hcD, h14.facts, h24.facts, h13.facts, h23.facts, fMg, fQg]
    have hR := rowC_row hM call
    refine m_call (icallRow_ok nm n v cs b s call hM _ (by first | exact h.ext hx14 | exact h.ext (dr hx14))) ?_
    rintro _ w5 hx5 rfl
    have hx5 : Ext w4 w5 := by first | exact hx5 | exact ud hx5 | exact ud (ud hx5)
    have h15 := h14.ext hx5
    simp only [↓vsd, vsn, gW, qd, qv, ev, pick, argE, zipE, ne_eq, eq_self, forall_const, implies_true, if_true, if_false, reduceIte, reduceCtorEq, Nat.reduceEqDiff, Nat.reduceAdd, Nat.reduceLT, ↓us_iMovedBells, r_iMovedBells, h14.facts, h15.facts, fMg]
    refine m_call (irounds_ok n (by have := hM.1.2.1; omega) _) ?_
    rintro _ w6 hx6 rfl
    have hx6 : Ext w5 w6 := by first | exact hx6 | exact ud hx6 | exact ud (ud hx6)
    simp only [↓vsd, vsn, gW, qd, qv, ev, pick, argE, zipE, ne_eq, eq_self, forall_const, implies_true, if_true, if_false, reduceIte, reduceCtorEq, Nat.reduceEqDiff, Nat.reduceAdd, Nat.reduceLT, ↓us_iMovedBells, r_iMovedBells]
    refine m_call (idiffering_ok _ n hR.1 hR.2 _) ?_
    rintro x w7 hx7 ho7
    have hx7 : Ext w6 w7 := by first | exact hx7 | exact ud hx7 | exact ud (ud hx7)
    simp only [↓vsd, vsn, gW, qd, qv, ev, pick, argE, zipE, ne_eq, eq_self, forall_const, implies_true, if_true, if_false, reduceIte, reduceCtorEq, Nat.reduceEqDiff, Nat.reduceAdd, Nat.reduceLT, ↓us_iMovedBells, r_iMovedBells]
    have hx16 := (hx14.trans hx5).trans hx6
    exact ⟨hx16.trans hx7, x, by rw [decide_eq_true hok], by rw [mvV, if_pos hok]; exact ho7.mono hx16.size⟩
  · by_cases hM : IsMC nm st cs b s
    · have hc : ¬ IsCall call := fun hh => hok ⟨hM, hh⟩
      have hD := decide_eq_true hM
      have hcD := decide_eq_false hc
      simp only [↓vsd, vsn, gW, qd, qv, ev, pick, argE, zipE, ne_eq, eq_self, forall_const, implies_true, if_true, if_false, reduceIte, reduceCtorEq, Nat.reduceEqDiff, Nat.reduceAdd, Nat.reduceLT, ↓us_iMovedBells, r_iMovedBells, hD, h13.facts, h23.facts, fMg, fQg]
      refine m_call (iisCall_okc call _) ?_
      rintro _ w4 hx4 rfl
      have hx4 : Ext w3 w4 := by first | exact hx4 | exact ud hx4 | exact ud (ud hx4)
      have hxE := hx13.trans hx4
      simp only [↓vsd, vsn, gW, qd, qv, ev, pick, argE, zipE, ne_eq, eq_self, forall_const, implies_true, if_true, if_false, reduceIte, reduceCtorEq, Nat.reduceEqDiff, Nat.reduceAdd, Nat.reduceLT, ↓us_iMovedBells, r_iMovedBells, hcD]
      exact ⟨hxE, _, by rw [decide_eq_false hok], by rw [mvV, if_neg hok]; exact Own.nil fI_len⟩
    · have hD := decide_eq_false hM
      have hxE := hx13
      simp only [↓vsd, vsn, gW, qd, qv, ev, pick, argE, zipE, ne_eq, eq_self, forall_const, implies_true, if_true, if_false, reduceIte, reduceCtorEq, Nat.reduceEqDiff, Nat.reduceAdd, Nat.reduceLT, ↓us_iMovedBells, r_iMovedBells, hD]
      exact ⟨hxE, _, by rw [decide_eq_false hok], by rw [mvV, if_neg hok]; exact Own.nil fI_len⟩
theorem sMovedBells_ok (w : World) (h : Sq fS 1 w v cs) : Fn 130 [mV nm st v, kV b s, S call] w (fun r w' => ∃ x, r = .tuple ⟨[x, .bool (decide (CallOk nm st cs b s call))]⟩ ∧ Own fI 1 3 w.heap.size w' x (mvV nm st cs b s call)) := by
  (refine callsV_of mix Try.func130 c_sMovedBells ?_; simp only [↓vsd, vsn, gW, qd, qv, ev, pick, argE, zipE, ne_eq, eq_self, forall_const, implies_true, if_true, if_false, reduceIte, reduceCtorEq, Nat.reduceEqDiff, Nat.reduceAdd, Nat.reduceLT, ↓us_sMovedBells, r_sMovedBells])
  refine m_al ?_
  rintro b1 w1 hb1 hblk1 hx1 hs1
  have h1 : Blk w1 b1 (fM nm st v) 41 := hblk1
  simp only [↓vsd, vsn, gW, qd, qv, ev, pick, argE, zipE, ne_eq, eq_self, forall_const, implies_true, if_true, if_false, reduceIte, reduceCtorEq, Nat.reduceEqDiff, Nat.reduceAdd, Nat.reduceLT, ↓us_sMovedBells, r_sMovedBells, h1.facts, fMg]
  refine m_al ?_
  rintro b2 w2 hb2 hblk2 hx2 hs2
  have h2 : Blk w2 b2 (fQ b s) 32 := hblk2
  have h12 := h1.ext hx2
  have hx12 := hx1.trans hx2
  simp only [↓vsd, vsn, gW, qd, qv, ev, pick, argE, zipE, ne_eq, eq_self, forall_const, implies_true, if_true, if_false, reduceIte, reduceCtorEq, Nat.reduceEqDiff, Nat.reduceAdd, Nat.reduceLT, ↓us_sMovedBells, r_sMovedBells, h12.facts, h2.facts, fMg, fQg]
  refine m_call (sl8Asked_ok nm st v cs b s call hnm hs hl hb _ (by first | exact h.ext hx12 | exact h.ext (dr hx12))) ?_
  rintro _ w3 hx3 rfl
  have hx3 : Ext w2 w3 := by first | exact hx3 | exact ud hx3 | exact ud (ud hx3)
  have hx13 := hx12.trans hx3
  have h13 := h12.ext hx3
  have h23 := h2.ext hx3
  by_cases hok : CallOk nm st cs b s call
  · obtain ⟨n, rfl⟩ : ∃ n : Nat, st = n := ⟨st.toNat, by have := hok.1.1.2.1; omega⟩
    have hM := hok.1
    have hc := hok.2
    have hD : decide (IsMC nm n cs b s ∧ IsCall call) = true := decide_eq_true hok
    have hx14 := hx13
    simp only [↓vsd, vsn, gW, qd, qv, ev, pick, argE, zipE, ne_eq, eq_self, forall_const, implies_true, if_true, if_false, reduceIte, reduceCtorEq, Nat.reduceEqDiff, Nat.reduceAdd, Nat.reduceLT, ↓us_sMovedBells, r_sMovedBells, hD, h13.facts, h23.facts, fMg, fQg]
    have hR := rowC_row hM call
    refine m_call (sl8Row_ok nm n v cs b s call hM _ (by first | exact h.ext hx14 | exact h.ext (dr hx14))) ?_
    rintro _ w5 hx5 rfl
    have hx5 : Ext w3 w5 := by first | exact hx5 | exact ud hx5 | exact ud (ud hx5)
    have hx15 := hx14.trans hx5
    have hr3 := hR.1.1
    have hmv : mvV nm n cs b s call = movedL (rowC n cs b s call) n := by rw [mvV, if_pos hok]; rfl
    simp only [↓vsd, vsn, gW, qd, qv, ev, pick, argE, zipE, ne_eq, eq_self, forall_const, implies_true, if_true, if_false, reduceIte, reduceCtorEq, Nat.reduceEqDiff, Nat.reduceAdd, Nat.reduceLT, ↓us_sMovedBells, r_sMovedBells]
    generalize hrr : rowC n cs b s call = r at *
    obtain ⟨hr1, hr2⟩ := hR
    refine m_upto n (fun i vs w' => ∃ x, vs = [x, .int .i64 (i + 1 : Nat)] ∧ Own fI 1 3 w5.heap.size w' x (movedL r i) ∧ Ext w5 w') ⟨_, rfl, (Own.nil fI_len).to rfl, Ext.refl _⟩ ?_
    rintro i vs w6 hi ⟨x, rfl, ho, hx⟩
    have hml := movedL_len r i
    by_cases hlt : i < n
    · have hlo := hr1.low (i := i) (by omega)
      have hsu := movedL_succ r i
      have hltI : ((i + 1 : Nat) : Int) ≤ r.length := by omega
      simp only [↓vsd, vsn, gW, qd, qv, ev, pick, argE, zipE, ne_eq, eq_self, forall_const, implies_true, if_true, if_false, reduceIte, reduceCtorEq, Nat.reduceEqDiff, Nat.reduceAdd, Nat.reduceLT, ↓us_sMovedBells, r_sMovedBells, hltI]
      refine m_call (sl1At_ok r (i + 1) (by omega) (by rw [Nat.add_sub_cancel]; omega) (by omega) _) ?_
      rintro _ w7 hx7 rfl
      have hx7 : Ext w6 w7 := by first | exact hx7 | exact ud hx7 | exact ud (ud hx7)
      rw [Nat.add_sub_cancel]
      have h49 : (UInt8.ofNat (49 + i)).toNat = 49 + i := u8_nat (by omega)
      simp only [↓vsd, vsn, gW, qd, qv, ev, pick, argE, zipE, ne_eq, eq_self, forall_const, implies_true, if_true, if_false, reduceIte, reduceCtorEq, Nat.reduceEqDiff, Nat.reduceAdd, Nat.reduceLT, ↓us_sMovedBells, r_sMovedBells]
      refine ⟨fun hne => m_bsl (one_el rfl) ?_, fun he => ?_⟩
      · rintro b8 w8 hb8 hblk8 hx8 hs8
        have hx8 : Ext w7 w8 := by first | exact hx8 | exact ud hx8 | exact ud (ud hx8)
        simp only [↓vsd, vsn, gW, qd, qv, ev, pick, argE, zipE, ne_eq, eq_self, forall_const, implies_true, if_true, if_false, reduceIte, reduceCtorEq, Nat.reduceEqDiff, Nat.reduceAdd, Nat.reduceLT, ↓us_sMovedBells, r_sMovedBells]
        have hx78 := hx7.trans hx8
        refine m_app (ho.ext hx78) (Sq.one fI_len hblk8 rfl) fI_one (by decide) (by simp; omega) (by decide) (hx.trans hx78).size ?_
        rintro y w9 ho9 hg9
        simp only [↓vsd, vsn, gW, qd, qv, ev, pick, argE, zipE, ne_eq, eq_self, forall_const, implies_true, if_true, if_false, reduceIte, reduceCtorEq, Nat.reduceEqDiff, Nat.reduceAdd, Nat.reduceLT, ↓us_sMovedBells, r_sMovedBells]
        have hne' : r.getD i 0 ≠ UInt8.ofNat (49 + i) := fun e => hne (by rw [e, h49]; omega)
        rw [if_pos hne'] at hsu
        exact ⟨inR_i64 (by omega), UpTo.next hlt ⟨y, rfl, ho9.to hsu.symm, (ho.ext hx78).grown (hx.trans hx78) (Nat.le_refl _) hg9⟩⟩
      · have he' : ¬ r.getD i 0 ≠ UInt8.ofNat (49 + i) := fun hh => hh (u8_eq (by omega))
        rw [if_neg he', List.append_nil] at hsu
        exact ⟨inR_i64 (by omega), UpTo.next hlt ⟨x, rfl, (ho.ext hx7).to hsu.symm, hx.trans hx7⟩⟩
    · obtain rfl : i = n := by omega
      have hltI : ¬ ((i + 1 : Nat) : Int) ≤ r.length := by omega
      simp only [↓vsd, vsn, gW, qd, qv, ev, pick, argE, zipE, ne_eq, eq_self, forall_const, implies_true, if_true, if_false, reduceIte, reduceCtorEq, Nat.reduceEqDiff, Nat.reduceAdd, Nat.reduceLT, ↓us_sMovedBells, r_sMovedBells, hltI]
      exact ⟨hx15.trans hx, x, by rw [decide_eq_true hok], by rw [hmv]; exact ho.mono hx15.size⟩
  · have hD : decide (IsMC nm st cs b s ∧ IsCall call) = false := decide_eq_false hok
    have hxE := hx13
    simp only [↓vsd, vsn, gW, qd, qv, ev, pick, argE, zipE, ne_eq, eq_self, forall_const, implies_true, if_true, if_false, reduceIte, reduceCtorEq, Nat.reduceEqDiff, Nat.reduceAdd, Nat.reduceLT, ↓us_sMovedBells, r_sMovedBells, hD]
    exact ⟨hxE, _, by rw [decide_eq_false hok], by rw [mvV, if_neg hok]; exact Own.nil fI_len⟩
theorem iCalledLead_ok (w : World) (h : Sq fS 1 w v cs) : Fn 122 [mV nm st v, kV b s, S call] w (LeadC nm st cs b s call w.heap.size) := by
  (refine callsV_of mix Try.func122 c_iCalledLead ?_; simp only [↓vsd, vsn, gW, qd, qv, ev, pick, argE, zipE, ne_eq, eq_self, forall_const, implies_true, if_true, if_false, reduceIte, reduceCtorEq, Nat.reduceEqDiff, Nat.reduceAdd, Nat.reduceLT, ↓us_iCalledLead, r_iCalledLead])
  refine m_al ?_
  rintro b1 w1 hb1 hblk1 hx1 hs1
  have h1 : Blk w1 b1 (fM nm st v) 41 := hblk1
  simp only [↓vsd, vsn, gW, qd, qv, ev, pick, argE, zipE, ne_eq, eq_self, forall_const, implies_true, if_true, if_false, reduceIte, reduceCtorEq, Nat.reduceEqDiff, Nat.reduceAdd, Nat.reduceLT, ↓us_iCalledLead, r_iCalledLead, h1.facts, fMg]
  refine m_al ?_
  rintro b2 w2' hb2 hblk2 hx2 hs2
  have h2 : Blk w2' b2 (fQ b s) 32 := hblk2
  have h12 := h1.ext hx2
  simp only [↓vsd, vsn, gW, qd, qv, ev, pick, argE, zipE, ne_eq, eq_self, forall_const, implies_true, if_true, if_false, reduceIte, reduceCtorEq, Nat.reduceEqDiff, Nat.reduceAdd, Nat.reduceLT, ↓us_iCalledLead, r_iCalledLead, h12.facts, h2.facts, fMg, fQg]
  refine m_al ?_
  rintro b3 w2 hb3 hblk3 hx3 hs3
  have hr : Blk w2 b3 (fM [] 0 (.slice none 0 0)) 41 := hblk3
  have h12 := h12.ext hx3
  have h2 := h2.ext hx3
  have hx12 := (hx1.trans hx2).trans hx3
  simp only [↓vsd, vsn, gW, qd, qv, ev, pick, argE, zipE, ne_eq, eq_self, forall_const, implies_true, if_true, if_false, reduceIte, reduceCtorEq, Nat.reduceEqDiff, Nat.reduceAdd, Nat.reduceLT, ↓us_iCalledLead, r_iCalledLead, h12.facts, h2.facts, fMg, fQg]
  refine m_call (iGoodCalls_ok nm st v cs b s hnm hs hl hb _ (by first | exact h.ext hx12 | exact h.ext (dr hx12))) ?_
  rintro _ w3 hx3 rfl
  have hx3 : Ext w2 w3 := by first | exact hx3 | exact ud hx3 | exact ud (ud hx3)
  have hx13 := hx12.trans hx3
  have h13 := h12.ext hx3
  have h23 := h2.ext hx3
  by_cases hok : CallOk nm st cs b s call
  · obtain ⟨n, rfl⟩ : ∃ n : Nat, st = n := ⟨st.toNat, by have := hok.1.1.2.1; omega⟩
    have hM := hok.1
    have hc := hok.2
    have hD := decide_eq_true hM
    simp only [↓vsd, vsn, gW, qd, qv, ev, pick, argE, zipE, ne_eq, eq_self, forall_const, implies_true, if_true, if_false, reduceIte, reduceCtorEq, Nat.reduceEqDiff, Nat.reduceAdd, Nat.reduceLT, ↓us_iCalledLead, r_iCalledLead, hD, h13.facts, h23.facts, fMg, fQg]
    refine m_call (iisCall_okc call _) ?_
    rintro _ w4 hx4 rfl
    have hx4 : Ext w3 w4 := by first | exact hx4 | exact ud hx4 | exact ud (ud hx4)
    have hx14 := hx13.trans hx4
    have h14 := h13.ext hx4
    have h24 := h23.ext hx4
    have hcD := decide_eq_true hc
    simp only [↓vsd, vsn, gW, qd, qv, ev, pick, argE, zipE, ne_eq, eq_self, forall_const, implies_true, if_true, if_false, reduceIte, reduceCtorEq, Nat.reduceEqDiff, Nat.reduceAdd, Nat.reduceLT, ↓us_iCalledLead, r_iCalledLead, hcD, h14.facts, h24.facts, h13.facts, h23.facts, fMg, fQg]
    refine m_call (icalledLead_ok nm n v cs b s call hM.1.2.2.1 _ (by first | exact h.ext hx14 | exact h.ext (dr hx14))) ?_
    rintro _ w5 hx5 ⟨x, rfl, ho5⟩
    have hx5 : Ext w4 w5 := by first | exact hx5 | exact ud hx5 | exact ud (ud hx5)
    have hr5 := ((hr.ext hx3).ext hx4).ext hx5
    simp only [↓vsd, vsn, gW, qd, qv, ev, pick, argE, zipE, ne_eq, eq_self, forall_const, implies_true, if_true, if_false, reduceIte, reduceCtorEq, Nat.reduceEqDiff, Nat.reduceAdd, Nat.reduceLT, ↓us_iCalledLead, r_iCalledLead]
    refine m_st hr5 rfl (Nat.le_refl 3) (fM_one nm n x ho5.sq.one') ?_
    rintro w6 hblk6 hu6
    have hr6 : Blk w6 b3 (fM nm n x) 41 := hblk6
    have hlt := hr.lt
    simp only [↓vsd, vsn, gW, qd, qv, ev, pick, argE, zipE, ne_eq, eq_self, forall_const, implies_true, if_true, if_false, reduceIte, reduceCtorEq, Nat.reduceEqDiff, Nat.reduceAdd, Nat.reduceLT, ↓us_iCalledLead, r_iCalledLead, hr6.facts, fMg]
    exact ⟨hu6.below (hx14.trans hx5) (by have := hx1.size; have := hx2.size; omega), by rw [LeadC, if_pos hok]; exact ⟨x, rfl, (ho5.upd hu6 (ho5.away' (by have := hx3.size; have := hx4.size; omega))).mono hx14.size⟩⟩
  · by_cases hM : IsMC nm st cs b s
    · have hc : ¬ IsCall call := fun hh => hok ⟨hM, hh⟩
      have hD := decide_eq_true hM
      have hcD := decide_eq_false hc
      simp only [↓vsd, vsn, gW, qd, qv, ev, pick, argE, zipE, ne_eq, eq_self, forall_const, implies_true, if_true, if_false, reduceIte, reduceCtorEq, Nat.reduceEqDiff, Nat.reduceAdd, Nat.reduceLT, ↓us_iCalledLead, r_iCalledLead, hD, h13.facts, h23.facts, fMg, fQg]
      refine m_call (iisCall_okc call _) ?_
      rintro _ w4 hx4 rfl
      have hx4 : Ext w3 w4 := by first | exact hx4 | exact ud hx4 | exact ud (ud hx4)
      have hxE := hx13.trans hx4
      simp only [↓vsd, vsn, gW, qd, qv, ev, pick, argE, zipE, ne_eq, eq_self, forall_const, implies_true, if_true, if_false, reduceIte, reduceCtorEq, Nat.reduceEqDiff, Nat.reduceAdd, Nat.reduceLT, ↓us_iCalledLead, r_iCalledLead, hcD]
      try simp only [↓vsd, vsn, gW, qd, qv, ev, pick, argE, zipE, ne_eq, eq_self, forall_const, implies_true, if_true, if_false, reduceIte, reduceCtorEq, Nat.reduceEqDiff, Nat.reduceAdd, Nat.reduceLT, ↓us_iCalledLead, r_iCalledLead]
      refine m_st (cur := fM [] 0 (.slice none 0 0)) (T := 41) (by first | exact hr.ext hx3 | exact (hr.ext hx3).ext hx4) rfl (Nat.le_refl 3) (fM_one [] 0 _ rfl) ?_
      rintro w6 hblk6 hu6
      have hr6 : Blk w6 b3 (fM [] 0 (.slice none 0 0)) 41 := hblk6
      simp only [↓vsd, vsn, gW, qd, qv, ev, pick, argE, zipE, ne_eq, eq_self, forall_const, implies_true, if_true, if_false, reduceIte, reduceCtorEq, Nat.reduceEqDiff, Nat.reduceAdd, Nat.reduceLT, ↓us_iCalledLead, r_iCalledLead, hr6.facts, fMg]
      exact ⟨hu6.below hxE (by have := hx1.size; have := hx2.size; omega), by rw [LeadC, if_neg hok]⟩
    · have hD := decide_eq_false hM
      have hxE := hx13
      simp only [↓vsd, vsn, gW, qd, qv, ev, pick, argE, zipE, ne_eq, eq_self, forall_const, implies_true, if_true, if_false, reduceIte, reduceCtorEq, Nat.reduceEqDiff, Nat.reduceAdd, Nat.reduceLT, ↓us_iCalledLead, r_iCalledLead, hD]
      try simp only [↓vsd, vsn, gW, qd, qv, ev, pick, argE, zipE, ne_eq, eq_self, forall_const, implies_true, if_true, if_false, reduceIte, reduceCtorEq, Nat.reduceEqDiff, Nat.reduceAdd, Nat.reduceLT, ↓us_iCalledLead, r_iCalledLead]
      refine m_st (cur := fM [] 0 (.slice none 0 0)) (T := 41) (by first | exact hr.ext hx3 | exact (hr.ext hx3).ext hx4) rfl (Nat.le_refl 3) (fM_one [] 0 _ rfl) ?_
      rintro w6 hblk6 hu6
      have hr6 : Blk w6 b3 (fM [] 0 (.slice none 0 0)) 41 := hblk6
      simp only [↓vsd, vsn, gW, qd, qv, ev, pick, argE, zipE, ne_eq, eq_self, forall_const, implies_true, if_true, if_false, reduceIte, reduceCtorEq, Nat.reduceEqDiff, Nat.reduceAdd, Nat.reduceLT, ↓us_iCalledLead, r_iCalledLead, hr6.facts, fMg]
      exact ⟨hu6.below hxE (by have := hx1.size; have := hx2.size; omega), by rw [LeadC, if_neg hok]⟩
theorem sCalledLead_ok (w : World) (h : Sq fS 1 w v cs) : Fn 123 [mV nm st v, kV b s, S call] w (LeadC nm st cs b s call w.heap.size) := by
  (refine callsV_of mix Try.func123 c_sCalledLead ?_; simp only [↓vsd, vsn, gW, qd, qv, ev, pick, argE, zipE, ne_eq, eq_self, forall_const, implies_true, if_true, if_false, reduceIte, reduceCtorEq, Nat.reduceEqDiff, Nat.reduceAdd, Nat.reduceLT, ↓us_sCalledLead, r_sCalledLead])
  refine m_al ?_
  rintro b1 w1 hb1 hblk1 hx1 hs1
  have h1 : Blk w1 b1 (fM nm st v) 41 := hblk1
  simp only [↓vsd, vsn, gW, qd, qv, ev, pick, argE, zipE, ne_eq, eq_self, forall_const, implies_true, if_true, if_false, reduceIte, reduceCtorEq, Nat.reduceEqDiff, Nat.reduceAdd, Nat.reduceLT, ↓us_sCalledLead, r_sCalledLead, h1.facts, fMg]
  refine m_al ?_
  rintro b2 w2' hb2 hblk2 hx2 hs2
  have h2 : Blk w2' b2 (fQ b s) 32 := hblk2
  have h12 := h1.ext hx2
  simp only [↓vsd, vsn, gW, qd, qv, ev, pick, argE, zipE, ne_eq, eq_self, forall_const, implies_true, if_true, if_false, reduceIte, reduceCtorEq, Nat.reduceEqDiff, Nat.reduceAdd, Nat.reduceLT, ↓us_sCalledLead, r_sCalledLead, h12.facts, h2.facts, fMg, fQg]
  refine m_al ?_
  rintro b3 w2 hb3 hblk3 hx3 hs3
  have hr : Blk w2 b3 (fM [] 0 (.slice none 0 0)) 41 := hblk3
  have h12 := h12.ext hx3
  have h2 := h2.ext hx3
  have hx12 := (hx1.trans hx2).trans hx3
  simp only [↓vsd, vsn, gW, qd, qv, ev, pick, argE, zipE, ne_eq, eq_self, forall_const, implies_true, if_true, if_false, reduceIte, reduceCtorEq, Nat.reduceEqDiff, Nat.reduceAdd, Nat.reduceLT, ↓us_sCalledLead, r_sCalledLead, h12.facts, h2.facts, fMg, fQg]
  refine m_call (sl8Asked_ok nm st v cs b s call hnm hs hl hb _ (by first | exact h.ext hx12 | exact h.ext (dr hx12))) ?_
  rintro _ w3 hx3 rfl
  have hx3 : Ext w2 w3 := by first | exact hx3 | exact ud hx3 | exact ud (ud hx3)
  have hx13 := hx12.trans hx3
  have h13 := h12.ext hx3
  have h23 := h2.ext hx3
  by_cases hok : CallOk nm st cs b s call
  · obtain ⟨n, rfl⟩ : ∃ n : Nat, st = n := ⟨st.toNat, by have := hok.1.1.2.1; omega⟩
    have hM := hok.1
    have hc := hok.2
    have hD : decide (IsMC nm n cs b s ∧ IsCall call) = true := decide_eq_true hok
    have hx14 := hx13
    simp only [↓vsd, vsn, gW, qd, qv, ev, pick, argE, zipE, ne_eq, eq_self, forall_const, implies_true, if_true, if_false, reduceIte, reduceCtorEq, Nat.reduceEqDiff, Nat.reduceAdd, Nat.reduceLT, ↓us_sCalledLead, r_sCalledLead, hD, h13.facts, h23.facts, fMg, fQg]
    have hc40 := hM.1.2.2.1
    refine m_call (sl4Own_ok nm n v cs (by omega) _ (by first | exact h.ext hx14 | exact h.ext (dr hx14))) ?_
    rintro _ w5 hx5 ⟨x, rfl, ho5⟩
    have hx5 : Ext w3 w5 := by first | exact hx5 | exact ud hx5 | exact ud (ud hx5)
    have hr5 := (hr.ext hx3).ext hx5
    have h15 := h13.ext hx5
    have h25 := h23.ext hx5
    have hrl := hr.lt
    have h12l := h12.lt
    have h2l := h2.lt
    have hx3s := hx3.size
    have hx5s := hx5.size
    simp only [↓vsd, vsn, gW, qd, qv, ev, pick, argE, zipE, ne_eq, eq_self, forall_const, implies_true, if_true, if_false, reduceIte, reduceCtorEq, Nat.reduceEqDiff, Nat.reduceAdd, Nat.reduceLT, ↓us_sCalledLead, r_sCalledLead]
    refine m_al ?_
    rintro b6 w6 hb6 hblk6 hx6 hs6
    simp only [↓vsd, vsn, gW, qd, qv, ev, pick, argE, zipE, ne_eq, eq_self, forall_const, implies_true, if_true, if_false, reduceIte, reduceCtorEq, Nat.reduceEqDiff, Nat.reduceAdd, Nat.reduceLT, ↓us_sCalledLead, r_sCalledLead]
    refine m_st hblk6 rfl (Nat.le_refl 3) (fM_one nm n x ho5.sq.one') ?_
    rintro w7 hblk7 hu7
    have h7 : Blk w7 b6 (fM nm n x) 41 := hblk7
    have ho7 := (ho5.ext hx6).upd hu7 (ho5.away (by omega))
    have hx17 : Ext w w7 := hu7.below ((hx14.trans hx5).trans hx6) (by have := (hx14.trans hx5).size; omega)
    have h17 := hu7.blk (h15.ext hx6) (by omega)
    have h27 := hu7.blk (h25.ext hx6) (by omega)
    have hr7 := hu7.blk (hr5.ext hx6) (by omega)
    have hI : ((cs.length : Nat) : Int) - 1 = ((cs.length - 1 : Nat) : Int) := by omega
    simp only [↓vsd, vsn, gW, qd, qv, ev, pick, argE, zipE, ne_eq, eq_self, forall_const, implies_true, if_true, if_false, reduceIte, reduceCtorEq, Nat.reduceEqDiff, Nat.reduceAdd, Nat.reduceLT, ↓us_sCalledLead, r_sCalledLead, h17.facts, h27.facts, h7.facts, fMg, fQg, ho7.sq.facts, hI]
    refine ⟨inR_i64 (by omega), m_call (sl8Change_ok nm n v cs b s call hc40 _ (by first | exact h.ext hx17 | exact h.ext (dr hx17))) ?_⟩
    rintro _ w8 hx8 rfl
    have hx8 : Ext w7 w8 := by first | exact hx8 | exact ud hx8 | exact ud (ud hx8)
    have ho8 := ho7.ext hx8
    simp only [↓vsd, vsn, gW, qd, qv, ev, pick, argE, zipE, ne_eq, eq_self, forall_const, implies_true, if_true, if_false, reduceIte, reduceCtorEq, Nat.reduceEqDiff, Nat.reduceAdd, Nat.reduceLT, ↓us_sCalledLead, r_sCalledLead, ho8.sq.facts, ho7.sq.facts, hI]
    refine ⟨by omega, m_set1 (cs.length - 1) (chgOf cs b s call) ho8 rfl (by omega) rfl fS_one ?_⟩
    rintro w9 ho9 hg9 _
    have h9 := (h7.ext hx8).same (hg9.block b6 (h7.ext hx8).lt (fun e => (ho5.away (show w5.heap.size ≤ b6 by omega)) e.symm))
    have hr9 := (hr7.ext hx8).same (hg9.block b3 (hr7.ext hx8).lt (fun e => (ho5.away' (show b3 < w3.heap.size by omega)) e.symm))
    have hx9 : Ext w w9 := ext_grow40 (hx17.trans hx8) hg9 (fun c hc => by have := (ho5.bound c hc).1; have := hx14.size; omega)
    simp only [↓vsd, vsn, gW, qd, qv, ev, pick, argE, zipE, ne_eq, eq_self, forall_const, implies_true, if_true, if_false, reduceIte, reduceCtorEq, Nat.reduceEqDiff, Nat.reduceAdd, Nat.reduceLT, ↓us_sCalledLead, r_sCalledLead, h9.facts, fMg]
    refine m_st hr9 rfl (Nat.le_refl 3) (fM_one nm n x ho5.sq.one') ?_
    rintro wa hblka hua
    have hra : Blk wa b3 (fM nm n x) 41 := hblka
    have hsl := set_last hc40.1 (chgOf cs b s call)
    simp only [↓vsd, vsn, gW, qd, qv, ev, pick, argE, zipE, ne_eq, eq_self, forall_const, implies_true, if_true, if_false, reduceIte, reduceCtorEq, Nat.reduceEqDiff, Nat.reduceAdd, Nat.reduceLT, ↓us_sCalledLead, r_sCalledLead, hra.facts, fMg]
    exact ⟨hua.below hx9 (by have := hx1.size; have := hx2.size; omega), by rw [LeadC, if_pos hok]; exact ⟨x, rfl, ((ho9.upd hua (ho5.away' (by omega))).mono hx14.size).to hsl⟩⟩
  · have hD : decide (IsMC nm st cs b s ∧ IsCall call) = false := decide_eq_false hok
    have hxE := hx13
    simp only [↓vsd, vsn, gW, qd, qv, ev, pick, argE, zipE, ne_eq, eq_self, forall_const, implies_true, if_true, if_false, reduceIte, reduceCtorEq, Nat.reduceEqDiff, Nat.reduceAdd, Nat.reduceLT, ↓us_sCalledLead, r_sCalledLead, hD]
    try simp only [↓vsd, vsn, gW, qd, qv, ev, pick, argE, zipE, ne_eq, eq_self, forall_const, implies_true, if_true, if_false, reduceIte, reduceCtorEq, Nat.reduceEqDiff, Nat.reduceAdd, Nat.reduceLT, ↓us_sCalledLead, r_sCalledLead]
    refine m_st (hr.ext hx3) rfl (Nat.le_refl 3) (fM_one [] 0 _ rfl) ?_
    rintro w6 hblk6 hu6
    have hr6 : Blk w6 b3 (fM [] 0 (.slice none 0 0)) 41 := hblk6
    simp only [↓vsd, vsn, gW, qd, qv, ev, pick, argE, zipE, ne_eq, eq_self, forall_const, implies_true, if_true, if_false, reduceIte, reduceCtorEq, Nat.reduceEqDiff, Nat.reduceAdd, Nat.reduceLT, ↓us_sCalledLead, r_sCalledLead, hr6.facts, fMg]
    exact ⟨hu6.below hxE (by have := hx1.size; have := hx2.size; omega), by rw [LeadC, if_neg hok]⟩
theorem sGoodCalls_ok (w : World) (h : Sq fS 1 w v cs) : Fn 132 [mV nm st v, kV b s] w (fun r _ => r = .bool (decide (IsMC nm st cs b s))) := by
  (refine callsV_of mix Try.func132 c_sGoodCalls ?_; simp only [↓vsd, vsn, gW, qd, qv, ev, pick, argE, zipE, ne_eq, eq_self, forall_const, implies_true, if_true, if_false, reduceIte, reduceCtorEq, Nat.reduceEqDiff, Nat.reduceAdd, Nat.reduceLT, ↓us_sGoodCalls, r_sGoodCalls])
  refine m_al ?_
  rintro b1 w1 hb1 hblk1 hx1 hs1
  have h1 : Blk w1 b1 (fM nm st v) 41 := hblk1
  simp only [↓vsd, vsn, gW, qd, qv, ev, pick, argE, zipE, ne_eq, eq_self, forall_const, implies_true, if_true, if_false, reduceIte, reduceCtorEq, Nat.reduceEqDiff, Nat.reduceAdd, Nat.reduceLT, ↓us_sGoodCalls, r_sGoodCalls, h1.facts, fMg]
  refine m_al ?_
  rintro b2 w2 hb2 hblk2 hx2 hs2
  have h2 : Blk w2 b2 (fQ b s) 32 := hblk2
  have h12 := h1.ext hx2
  have hx12 := hx1.trans hx2
  simp only [↓vsd, vsn, gW, qd, qv, ev, pick, argE, zipE, ne_eq, eq_self, forall_const, implies_true, if_true, if_false, reduceIte, reduceCtorEq, Nat.reduceEqDiff, Nat.reduceAdd, Nat.reduceLT, ↓us_sGoodCalls, r_sGoodCalls, h12.facts, h2.facts, fMg, fQg]
  refine m_call (sl8Good_ok nm st v cs b s hnm hs hl hb _ (by first | exact h.ext hx12 | exact h.ext (dr hx12))) ?_
  rintro _ w3 hx3 rfl
  have hx3 : Ext w2 w3 := by first | exact hx3 | exact ud hx3 | exact ud (ud hx3)
  simp only [↓vsd, vsn, gW, qd, qv, ev, pick, argE, zipE, ne_eq, eq_self, forall_const, implies_true, if_true, if_false, reduceIte, reduceCtorEq, Nat.reduceEqDiff, Nat.reduceAdd, Nat.reduceLT, ↓us_sGoodCalls, r_sGoodCalls]
  exact hx12.trans hx3
end
/-- The heads of the three calls. -/
def headsC (nm : List UInt8) (st : Int) (cs : List (List UInt8)) (b s : List UInt8) : List (List UInt8) := if IsMC nm st cs b s then [headC st.toNat cs b s [112], headC st.toNat cs b s [98], headC st.toNat cs b s [115]] else []
theorem icallHeads_ok (nm : List UInt8) (st : Nat) (v : Value) (cs : List (List UInt8)) (b s : List UInt8) (hM : IsMC nm st cs b s) (w : World) (h : Sq fS 1 w v cs) : Fn 257 [mV nm st v, kV b s] w (fun r w' => Own fS 1 9 w.heap.size w' r (headsC nm st cs b s)) := by
  (refine callsV_of mix Try.func257 c_icallHeads ?_; simp only [↓vsd, vsn, gW, qd, qv, ev, pick, argE, zipE, ne_eq, eq_self, forall_const, implies_true, if_true, if_false, reduceIte, reduceCtorEq, Nat.reduceEqDiff, Nat.reduceAdd, Nat.reduceLT, ↓us_icallHeads, r_icallHeads])
  refine m_al ?_
  rintro b1 w1 hb1 hblk1 hx1 hs1
  have h1 : Blk w1 b1 (fM nm st v) 41 := hblk1
  simp only [↓vsd, vsn, gW, qd, qv, ev, pick, argE, zipE, ne_eq, eq_self, forall_const, implies_true, if_true, if_false, reduceIte, reduceCtorEq, Nat.reduceEqDiff, Nat.reduceAdd, Nat.reduceLT, ↓us_icallHeads, r_icallHeads, h1.facts, fMg]
  refine m_al ?_
  rintro b2 w2 hb2 hblk2 hx2 hs2
  have h2 : Blk w2 b2 (fQ b s) 32 := hblk2
  have h12 := h1.ext hx2
  have hx12 := hx1.trans hx2
  simp only [↓vsd, vsn, gW, qd, qv, ev, pick, argE, zipE, ne_eq, eq_self, forall_const, implies_true, if_true, if_false, reduceIte, reduceCtorEq, Nat.reduceEqDiff, Nat.reduceAdd, Nat.reduceLT, ↓us_icallHeads, r_icallHeads, h12.facts, h2.facts, fMg, fQg]
  refine m_call (icallHead_ok nm st v cs b s [112] hM _ (by first | exact h.ext hx12 | exact h.ext (dr hx12))) ?_
  rintro _ w3 hx3 rfl
  have hx3 : Ext w2 w3 := by first | exact hx3 | exact ud hx3 | exact ud (ud hx3)
  have hx13 := hx12.trans hx3
  have h13 := h12.ext hx3
  have h23 := h2.ext hx3
  simp only [↓vsd, vsn, gW, qd, qv, ev, pick, argE, zipE, ne_eq, eq_self, forall_const, implies_true, if_true, if_false, reduceIte, reduceCtorEq, Nat.reduceEqDiff, Nat.reduceAdd, Nat.reduceLT, ↓us_icallHeads, r_icallHeads, h13.facts, h23.facts, fMg, fQg]
  refine m_call (icallHead_ok nm st v cs b s [98] hM _ (by first | exact h.ext hx13 | exact h.ext (dr hx13))) ?_
  rintro _ w4 hx4 rfl
  have hx4 : Ext w3 w4 := by first | exact hx4 | exact ud hx4 | exact ud (ud hx4)
  have hx14 := hx13.trans hx4
  have h14 := h13.ext hx4
  have h24 := h23.ext hx4
  simp only [↓vsd, vsn, gW, qd, qv, ev, pick, argE, zipE, ne_eq, eq_self, forall_const, implies_true, if_true, if_false, reduceIte, reduceCtorEq, Nat.reduceEqDiff, Nat.reduceAdd, Nat.reduceLT, ↓us_icallHeads, r_icallHeads, h14.facts, h24.facts, fMg, fQg]
  refine m_call (icallHead_ok nm st v cs b s [115] hM _ (by first | exact h.ext hx14 | exact h.ext (dr hx14))) ?_
  rintro _ w5 hx5 rfl
  have hx5 : Ext w4 w5 := by first | exact hx5 | exact ud hx5 | exact ud (ud hx5)
  simp only [↓vsd, vsn, gW, qd, qv, ev, pick, argE, zipE, ne_eq, eq_self, forall_const, implies_true, if_true, if_false, reduceIte, reduceCtorEq, Nat.reduceEqDiff, Nat.reduceAdd, Nat.reduceLT, ↓us_icallHeads, r_icallHeads]
  refine m_bsl (by simp [S]; repeat' constructor) ?_
  rintro b6 w6 hb6 hblk6 hx6 hs6
  have hx6 : Ext w5 w6 := by first | exact hx6 | exact ud hx6 | exact ud (ud hx6)
  simp only [↓vsd, vsn, gW, qd, qv, ev, pick, argE, zipE, ne_eq, eq_self, forall_const, implies_true, if_true, if_false, reduceIte, reduceCtorEq, Nat.reduceEqDiff, Nat.reduceAdd, Nat.reduceLT, ↓us_icallHeads, r_icallHeads]
  have hx15 := hx14.trans hx5
  exact ⟨hx15.trans hx6, by rw [headsC, if_pos hM]; exact (Own.lit40 [headC st cs b s [112], headC st cs b s [98], headC st cs b s [115]] fS_len hblk6 rfl rfl (by omega) (by simp)).mono hx15.size⟩
section
variable (nm : List UInt8) (st : Int) (v : Value) (cs : List (List UInt8)) (b s : List UInt8) (hnm : nm.length ≤ 1048576) (hs : ∀ c ∈ cs, c.length ≤ 1048576) (hl : cs.length ≤ 1000000000) (hb : b.length ≤ 1048576 ∧ s.length ≤ 1048576)
include hnm hs hl hb
theorem iCallHeads_ok (w : World) (h : Sq fS 1 w v cs) : Fn 138 [mV nm st v, kV b s] w (fun r w' => ∃ x, r = .tuple ⟨[x, .bool (decide (IsMC nm st cs b s))]⟩ ∧ Own fS 1 9 w.heap.size w' x (headsC nm st cs b s)) := by
  (refine callsV_of mix Try.func138 c_iCallHeads ?_; simp only [↓vsd, vsn, gW, qd, qv, ev, pick, argE, zipE, ne_eq, eq_self, forall_const, implies_true, if_true, if_false, reduceIte, reduceCtorEq, Nat.reduceEqDiff, Nat.reduceAdd, Nat.reduceLT, ↓us_iCallHeads, r_iCallHeads])
  refine m_al ?_
  rintro b1 w1 hb1 hblk1 hx1 hs1
  have h1 : Blk w1 b1 (fM nm st v) 41 := hblk1
  simp only [↓vsd, vsn, gW, qd, qv, ev, pick, argE, zipE, ne_eq, eq_self, forall_const, implies_true, if_true, if_false, reduceIte, reduceCtorEq, Nat.reduceEqDiff, Nat.reduceAdd, Nat.reduceLT, ↓us_iCallHeads, r_iCallHeads, h1.facts, fMg]
  refine m_al ?_
  rintro b2 w2 hb2 hblk2 hx2 hs2
  have h2 : Blk w2 b2 (fQ b s) 32 := hblk2
  have h12 := h1.ext hx2
  have hx12 := hx1.trans hx2
  simp only [↓vsd, vsn, gW, qd, qv, ev, pick, argE, zipE, ne_eq, eq_self, forall_const, implies_true, if_true, if_false, reduceIte, reduceCtorEq, Nat.reduceEqDiff, Nat.reduceAdd, Nat.reduceLT, ↓us_iCallHeads, r_iCallHeads, h12.facts, h2.facts, fMg, fQg]
  refine m_call (iGoodCalls_ok nm st v cs b s hnm hs hl hb _ (by first | exact h.ext hx12 | exact h.ext (dr hx12))) ?_
  rintro _ w3 hx3 rfl
  have hx3 : Ext w2 w3 := by first | exact hx3 | exact ud hx3 | exact ud (ud hx3)
  have hx13 := hx12.trans hx3
  have h13 := h12.ext hx3
  have h23 := h2.ext hx3
  by_cases hM : IsMC nm st cs b s
  · obtain ⟨n, rfl⟩ : ∃ n : Nat, st = n := ⟨st.toNat, by have := hM.1.2.1; omega⟩
    have hD := decide_eq_true hM
    simp only [↓vsd, vsn, gW, qd, qv, ev, pick, argE, zipE, ne_eq, eq_self, forall_const, implies_true, if_true, if_false, reduceIte, reduceCtorEq, Nat.reduceEqDiff, Nat.reduceAdd, Nat.reduceLT, ↓us_iCallHeads, r_iCallHeads, hD, h13.facts, h23.facts, fMg, fQg]
    refine m_call (icallHeads_ok nm n v cs b s hM _ (by first | exact h.ext hx13 | exact h.ext (dr hx13))) ?_
    rintro x w4 hx4 ho4
    have hx4 : Ext w3 w4 := by first | exact hx4 | exact ud hx4 | exact ud (ud hx4)
    simp only [↓vsd, vsn, gW, qd, qv, ev, pick, argE, zipE, ne_eq, eq_self, forall_const, implies_true, if_true, if_false, reduceIte, reduceCtorEq, Nat.reduceEqDiff, Nat.reduceAdd, Nat.reduceLT, ↓us_iCallHeads, r_iCallHeads]
    exact ⟨hx13.trans hx4, x, rfl, ho4.mono hx13.size⟩
  · have hD := decide_eq_false hM
    simp only [↓vsd, vsn, gW, qd, qv, ev, pick, argE, zipE, ne_eq, eq_self, forall_const, implies_true, if_true, if_false, reduceIte, reduceCtorEq, Nat.reduceEqDiff, Nat.reduceAdd, Nat.reduceLT, ↓us_iCallHeads, r_iCallHeads, hD]
    exact ⟨hx13, _, rfl, by rw [headsC, if_neg hM]; exact Own.nil fS_len⟩
theorem sCallHeads_ok (w : World) (h : Sq fS 1 w v cs) : Fn 139 [mV nm st v, kV b s] w (fun r w' => ∃ x, r = .tuple ⟨[x, .bool (decide (IsMC nm st cs b s))]⟩ ∧ Own fS 1 9 w.heap.size w' x (headsC nm st cs b s)) := by
  (refine callsV_of mix Try.func139 c_sCallHeads ?_; simp only [↓vsd, vsn, gW, qd, qv, ev, pick, argE, zipE, ne_eq, eq_self, forall_const, implies_true, if_true, if_false, reduceIte, reduceCtorEq, Nat.reduceEqDiff, Nat.reduceAdd, Nat.reduceLT, ↓us_sCallHeads, r_sCallHeads])
  refine m_al ?_
  rintro b1 w1 hb1 hblk1 hx1 hs1
  have h1 : Blk w1 b1 (fM nm st v) 41 := hblk1
  simp only [↓vsd, vsn, gW, qd, qv, ev, pick, argE, zipE, ne_eq, eq_self, forall_const, implies_true, if_true, if_false, reduceIte, reduceCtorEq, Nat.reduceEqDiff, Nat.reduceAdd, Nat.reduceLT, ↓us_sCallHeads, r_sCallHeads, h1.facts, fMg]
  refine m_al ?_
  rintro b2 w2 hb2 hblk2 hx2 hs2
  have h2 : Blk w2 b2 (fQ b s) 32 := hblk2
  have h12 := h1.ext hx2
  have hx12 := hx1.trans hx2
  simp only [↓vsd, vsn, gW, qd, qv, ev, pick, argE, zipE, ne_eq, eq_self, forall_const, implies_true, if_true, if_false, reduceIte, reduceCtorEq, Nat.reduceEqDiff, Nat.reduceAdd, Nat.reduceLT, ↓us_sCallHeads, r_sCallHeads, h12.facts, h2.facts, fMg, fQg]
  refine m_call (sl8Good_ok nm st v cs b s hnm hs hl hb _ (by first | exact h.ext hx12 | exact h.ext (dr hx12))) ?_
  rintro _ w3 hx3 rfl
  have hx3 : Ext w2 w3 := by first | exact hx3 | exact ud hx3 | exact ud (ud hx3)
  have hx13 := hx12.trans hx3
  have h13 := h12.ext hx3
  have h23 := h2.ext hx3
  by_cases hM : IsMC nm st cs b s
  · obtain ⟨n, rfl⟩ : ∃ n : Nat, st = n := ⟨st.toNat, by have := hM.1.2.1; omega⟩
    have hD := decide_eq_true hM
    simp only [↓vsd, vsn, gW, qd, qv, ev, pick, argE, zipE, ne_eq, eq_self, forall_const, implies_true, if_true, if_false, reduceIte, reduceCtorEq, Nat.reduceEqDiff, Nat.reduceAdd, Nat.reduceLT, ↓us_sCallHeads, r_sCallHeads, hD, h13.facts, h23.facts, fMg, fQg]
    refine m_call (sl8Head_ok nm n v cs b s [112] hM _ (by first | exact h.ext hx13 | exact h.ext (dr hx13))) ?_
    rintro _ w4 hx4 rfl
    have hx4 : Ext w3 w4 := by first | exact hx4 | exact ud hx4 | exact ud (ud hx4)
    have hx14 := hx13.trans hx4
    have h14 := h13.ext hx4
    have h24 := h23.ext hx4
    simp only [↓vsd, vsn, gW, qd, qv, ev, pick, argE, zipE, ne_eq, eq_self, forall_const, implies_true, if_true, if_false, reduceIte, reduceCtorEq, Nat.reduceEqDiff, Nat.reduceAdd, Nat.reduceLT, ↓us_sCallHeads, r_sCallHeads, h14.facts, h24.facts, fMg, fQg]
    refine m_call (sl8Head_ok nm n v cs b s [98] hM _ (by first | exact h.ext hx14 | exact h.ext (dr hx14))) ?_
    rintro _ w5 hx5 rfl
    have hx5 : Ext w4 w5 := by first | exact hx5 | exact ud hx5 | exact ud (ud hx5)
    have hx15 := hx14.trans hx5
    have h15 := h14.ext hx5
    have h25 := h24.ext hx5
    simp only [↓vsd, vsn, gW, qd, qv, ev, pick, argE, zipE, ne_eq, eq_self, forall_const, implies_true, if_true, if_false, reduceIte, reduceCtorEq, Nat.reduceEqDiff, Nat.reduceAdd, Nat.reduceLT, ↓us_sCallHeads, r_sCallHeads, h15.facts, h25.facts, fMg, fQg]
    refine m_call (sl8Head_ok nm n v cs b s [115] hM _ (by first | exact h.ext hx15 | exact h.ext (dr hx15))) ?_
    rintro _ w6 hx6 rfl
    have hx6 : Ext w5 w6 := by first | exact hx6 | exact ud hx6 | exact ud (ud hx6)
    simp only [↓vsd, vsn, gW, qd, qv, ev, pick, argE, zipE, ne_eq, eq_self, forall_const, implies_true, if_true, if_false, reduceIte, reduceCtorEq, Nat.reduceEqDiff, Nat.reduceAdd, Nat.reduceLT, ↓us_sCallHeads, r_sCallHeads]
    refine m_bsl (by simp [S]; repeat' constructor) ?_
    rintro b7 w7 hb7 hblk7 hx7 hs7
    have hx7 : Ext w6 w7 := by first | exact hx7 | exact ud hx7 | exact ud (ud hx7)
    simp only [↓vsd, vsn, gW, qd, qv, ev, pick, argE, zipE, ne_eq, eq_self, forall_const, implies_true, if_true, if_false, reduceIte, reduceCtorEq, Nat.reduceEqDiff, Nat.reduceAdd, Nat.reduceLT, ↓us_sCallHeads, r_sCallHeads]
    have hx16 := hx15.trans hx6
    exact ⟨hx16.trans hx7, _, rfl, by rw [headsC, if_pos hM]; exact (Own.lit40 [headC n cs b s [112], headC n cs b s [98], headC n cs b s [115]] fS_len hblk7 rfl rfl (by omega) (by simp)).mono hx16.size⟩
  · have hD := decide_eq_false hM
    simp only [↓vsd, vsn, gW, qd, qv, ev, pick, argE, zipE, ne_eq, eq_self, forall_const, implies_true, if_true, if_false, reduceIte, reduceCtorEq, Nat.reduceEqDiff, Nat.reduceAdd, Nat.reduceLT, ↓us_sCallHeads, r_sCallHeads, hD]
    exact ⟨hx13, _, rfl, by rw [headsC, if_neg hM]; exact Own.nil fS_len⟩
end
end Go.Proofs.Ytpnopboffalfnaa
