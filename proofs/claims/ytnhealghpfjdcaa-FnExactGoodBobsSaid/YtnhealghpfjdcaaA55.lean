/-
  The lead group and the Q-set's row of a method, of both sides.
  Conditions: none.
-/
import Derived.Test.YtnhealghpfjdcaaA54
import Derived.Test.YtnhealghpfjdcaaA37
import Derived.Test.YtnhealghpfjdcaaD3
set_option linter.unusedSimpArgs false
set_option linter.unusedVariables false
set_option linter.defProp false
namespace Go.Proofs.Ytnhealghpfjdcaa
open Go Go.RowKit
section
variable (P : Program) (k : KT) (e : Env) (w : World)
abbrev b67_1 : X := (.cond (.t 13) (.seq (.reg [4, 5] (.c (.q 14 [] (.bld [(S []), (S []), (.slice none 0 0), (S [])] [])) (.c (.e none [] (.st 4 (.t 4) (.t 14))) (.c (.q 5 [] (.mv (.c (.bool false)))) .nil)))) .ret) .skip)
def t67_1 := b67_1
theorem u67_1 : vcK P t67_1 k e w = vcK P b67_1 k e w := rfl
abbrev b67_2 : X := (.seq (.reg [4, 5] (.c (.q 30 [] (.mv (.t 6))) (.c (.q 31 [] (.mv (.t 7))) (.c (.q 32 [] (.mv (.t 8))) (.c (.q 33 [] (.mv (.t 6))) (.c (.q 34 [] (.mv (.t 7))) (.c (.e (some 35) [] (.call false 102 [(.t 34)])) (.c (.e (some 36) [] (.call false 75 [(.t 33), (.t 35)])) (.c (.q 37 [] (.bld [(S []), (S []), (.slice none 0 0), (S [])] [(0, 0, (.t 30)), (1, 0, (.t 31)), (2, 0, (.t 32)), (3, 0, (.t 36))])) (.c (.q 38 [] (.mv (.t 9))) (.c (.e none [] (.st 4 (.t 4) (.t 37))) (.c (.q 5 [] (.mv (.t 38))) .nil)))))))))))) .ret)
def t67_2 := b67_2
theorem u67_2 : vcK P t67_2 k e w = vcK P b67_2 k e w := rfl
abbrev b67_3 : X := (.seq (.reg [4, 6, 7, 8, 9] (.c (.q 22 [] (.fa 1 (.t 2))) (.c (.q 23 [] (.ld (.t 22))) (.c (.q 24 [] (.mv (.t 6))) (.c (.q 25 [] (.mv (.t 7))) (.c (.e (some 26) [] (.bsl 9 1 [(.t 24), (.t 25)])) (.c (.e (some 27) [] (.call false 127 [(.t 23), (.t 26), (.c (.int .i64 130))])) (.c (.q 21 [] (.mv (.t 27))) (.c (.q 28 [] (.ext 0 (.t 21))) (.c (.q 29 [] (.ext 1 (.t 21))) (.c (.q 8 [] (.mv (.t 28))) (.c (.q 9 [] (.mv (.t 29))) .nil)))))))))))) t67_2)
def t67_3 := b67_3
theorem u67_3 : vcK P t67_3 k e w = vcK P b67_3 k e w := rfl
abbrev b67_4 : X := (.seq (.drw [2, 4, 6, 7] (.c (.q 15 [] (.lda 3 (.t 2))) (.c (.q 16 [] (.lda 2 (.t 3))) (.c (.q 18 [] (.lda 3 (.t 2))) (.c (.q 19 [] (.lda 2 (.t 3))) (.c (.e (some 17) [] (.call false 76 [(.t 15), (.t 16), (.s [112])])) (.c (.e (some 20) [] (.call false 76 [(.t 18), (.t 19), (.s [98])])) (.c (.q 6 [] (.mv (.t 17))) (.c (.q 7 [] (.mv (.t 20))) .nil))))))))) t67_3)
def t67_4 := b67_4
theorem u67_4 : vcK P t67_4 k e w = vcK P b67_4 k e w := rfl
abbrev b67_5 : X := (.seq (.seq (.reg [2, 3, 4, 13] (.c (.q 10 [] (.lda 3 (.t 2))) (.c (.q 11 [] (.lda 2 (.t 3))) (.c (.e (some 12) [] (.call false 126 [(.t 10), (.t 11)])) (.c (.q 13 [] (.not (.t 12))) .nil))))) t67_1) t67_4)
def t67_5 := b67_5
theorem u67_5 : vcK P t67_5 k e w = vcK P b67_5 k e w := rfl
abbrev b67_0 : X := (.seq (.reg [2, 3, 4] (.c (.e (some 2) [] (.box 31 (.t 0))) (.c (.e (some 3) [] (.box 33 (.t 1))) (.c (.e (some 4) [] (.al 89 [(S []), (S []), (.slice none 0 0), (S [])])) (.c (.q 5 [] (.mv (.c (.bool false)))) .nil))))) t67_5)
def x_inewBlocks := b67_0
theorem u67_0 : vcK P x_inewBlocks k e w = vcK P b67_0 k e w := rfl
def r_inewBlocks : List XO := [(.lda 4 (.t 4)), (.mv (.t 5))]
theorem c_inewBlocks : convF Try.prog [89, 116, 117, 121, 143, 161, 162, 163, 166, 168, 234] Try.f67 [([2, 3, 4], []), ([2, 3, 4, 13], []), ([4, 5], []), ([2, 4, 6, 7], []), ([4, 6, 7, 8, 9], []), ([4, 5], [])] = some (x_inewBlocks, r_inewBlocks) := by kernel_rfl
def us_inewBlocks := aI @u67_0 (aI @u67_1 (aI @u67_2 (aI @u67_3 (aI @u67_4 @u67_5))))
abbrev b66_1 : X := (.cond (.t 30) (.seq (.reg [4, 5] (.c (.q 31 [] (.lda 4 (.t 6))) (.c (.e none [] (.st 4 (.t 4) (.t 31))) (.c (.q 5 [] (.mv (.c (.bool false)))) .nil)))) .ret) .skip)
def t66_1 := b66_1
theorem u66_1 : vcK P t66_1 k e w = vcK P b66_1 k e w := rfl
abbrev b66_2 : X := (.seq (.reg [4, 5] (.c (.q 50 [] (.lda 4 (.t 6))) (.c (.q 51 [] (.mv (.t 12))) (.c (.q 52 [] (.mv (.t 51))) (.c (.q 53 [(52, true)] (.mv (.t 11))) (.c (.q 54 [(52, true)] (.lens (.t 53))) (.c (.q 55 [(52, true)] (.bin .leq (.t 54) (.c (.int .i64 130)))) (.c (.q 56 [] (.pick (.t 52) (.t 55) (.c (.bool false)))) (.c (.e none [] (.st 4 (.t 4) (.t 50))) (.c (.q 5 [] (.mv (.t 56))) .nil)))))))))) .ret)
def t66_2 := b66_2
theorem u66_2 : vcK P t66_2 k e w = vcK P b66_2 k e w := rfl
abbrev b66_3 : X := (.seq (.reg [4, 6, 11, 12] (.c (.q 48 [] (.mv (.t 11))) (.c (.q 49 [] (.fa 3 (.t 6))) (.c (.e none [] (.st 1 (.t 49) (.t 48))) .nil)))) t66_2)
def t66_3 := b66_3
theorem u66_3 : vcK P t66_3 k e w = vcK P b66_3 k e w := rfl
abbrev b66_4 : X := (.seq (.reg [4, 6, 11, 12] (.c (.q 42 [] (.mv (.t 7))) (.c (.q 43 [] (.mv (.t 9))) (.c (.e (some 44) [] (.bsl 9 1 [(.t 42), (.t 43)])) (.c (.e (some 45) [] (.call false 125 [(.t 44)])) (.c (.q 41 [] (.mv (.t 45))) (.c (.q 46 [] (.ext 0 (.t 41))) (.c (.q 47 [] (.ext 1 (.t 41))) (.c (.q 11 [] (.mv (.t 46))) (.c (.q 12 [] (.mv (.t 47))) .nil)))))))))) t66_3)
def t66_4 := b66_4
theorem u66_4 : vcK P t66_4 k e w = vcK P b66_4 k e w := rfl
abbrev b66_5 : X := (.seq (.reg [4, 6, 7, 9] (.c (.q 36 [] (.mv (.t 7))) (.c (.q 37 [] (.mv (.t 9))) (.c (.e (some 38) [] (.call false 96 [(.t 37)])) (.c (.e (some 39) [] (.call false 82 [(.t 36), (.t 38)])) (.c (.q 40 [] (.fa 2 (.t 6))) (.c (.e none [] (.st 1 (.t 40) (.t 39))) .nil))))))) t66_4)
def t66_5 := b66_5
theorem u66_5 : vcK P t66_5 k e w = vcK P b66_5 k e w := rfl
abbrev b66_6 : X := (.seq (.reg [4, 6, 7, 9] (.c (.q 34 [] (.mv (.t 9))) (.c (.q 35 [] (.fa 1 (.t 6))) (.c (.e none [] (.st 1 (.t 35) (.t 34))) .nil)))) t66_5)
def t66_6 := b66_6
theorem u66_6 : vcK P t66_6 k e w = vcK P b66_6 k e w := rfl
abbrev b66_7 : X := (.seq (.reg [4, 6, 7, 9] (.c (.q 32 [] (.mv (.t 7))) (.c (.q 33 [] (.fa 0 (.t 6))) (.c (.e none [] (.st 1 (.t 33) (.t 32))) .nil)))) t66_6)
def t66_7 := b66_7
theorem u66_7 : vcK P t66_7 k e w = vcK P b66_7 k e w := rfl
abbrev b66_8 : X := (.seq (.seq (.reg [4, 6, 7, 9, 30] (.c (.q 25 [] (.mv (.t 8))) (.c (.q 26 [] (.not (.t 25))) (.c (.q 27 [] (.mv (.t 26))) (.c (.q 28 [(27, false)] (.mv (.t 10))) (.c (.q 29 [(27, false)] (.not (.t 28))) (.c (.q 30 [] (.pick (.t 27) (.c (.bool true)) (.t 29))) .nil))))))) t66_1) t66_7)
def t66_8 := b66_8
theorem u66_8 : vcK P t66_8 k e w = vcK P b66_8 k e w := rfl
abbrev b66_9 : X := (.seq (.reg [4, 6, 7, 8, 9, 10] (.c (.q 20 [] (.lda 3 (.t 2))) (.c (.q 21 [] (.lda 2 (.t 3))) (.c (.e (some 22) [] (.call false 124 [(.t 20), (.t 21), (.s [98])])) (.c (.q 19 [] (.mv (.t 22))) (.c (.q 23 [] (.ext 0 (.t 19))) (.c (.q 24 [] (.ext 1 (.t 19))) (.c (.q 9 [] (.mv (.t 23))) (.c (.q 10 [] (.mv (.t 24))) .nil))))))))) t66_8)
def t66_9 := b66_9
theorem u66_9 : vcK P t66_9 k e w = vcK P b66_9 k e w := rfl
abbrev b66_10 : X := (.seq (.reg [2, 3, 4, 6, 7, 8] (.c (.q 14 [] (.lda 3 (.t 2))) (.c (.q 15 [] (.lda 2 (.t 3))) (.c (.e (some 16) [] (.call false 124 [(.t 14), (.t 15), (.s [112])])) (.c (.q 13 [] (.mv (.t 16))) (.c (.q 17 [] (.ext 0 (.t 13))) (.c (.q 18 [] (.ext 1 (.t 13))) (.c (.q 7 [] (.mv (.t 17))) (.c (.q 8 [] (.mv (.t 18))) .nil))))))))) t66_9)
def t66_10 := b66_10
theorem u66_10 : vcK P t66_10 k e w = vcK P b66_10 k e w := rfl
abbrev b66_11 : X := (.seq (.reg [2, 3, 4, 6] (.c (.e (some 6) [] (.al 85 [(S []), (S []), (S []), (.slice none 0 0)])) .nil)) t66_10)
def t66_11 := b66_11
theorem u66_11 : vcK P t66_11 k e w = vcK P b66_11 k e w := rfl
abbrev b66_0 : X := (.seq (.reg [2, 3, 4] (.c (.e (some 2) [] (.box 31 (.t 0))) (.c (.e (some 3) [] (.box 33 (.t 1))) (.c (.e (some 4) [] (.al 85 [(S []), (S []), (S []), (.slice none 0 0)])) (.c (.q 5 [] (.mv (.c (.bool false)))) .nil))))) t66_11)
def x_sl17Of := b66_0
theorem u66_0 : vcK P x_sl17Of k e w = vcK P b66_0 k e w := rfl
def r_sl17Of : List XO := [(.lda 4 (.t 4)), (.mv (.t 5))]
theorem c_sl17Of : convF Try.prog [89, 116, 117, 121, 143, 161, 162, 163, 166, 168, 234] Try.f66 [([2, 3, 4], []), ([2, 3, 4, 6], []), ([2, 3, 4, 6, 7, 8], []), ([4, 6, 7, 8, 9, 10], []), ([4, 6, 7, 9, 30], []), ([4, 5], []), ([4, 6, 7, 9], []), ([4, 6, 7, 9], []), ([4, 6, 7, 9], []), ([4, 6, 11, 12], []), ([4, 6, 11, 12], []), ([4, 5], [])] = some (x_sl17Of, r_sl17Of) := by kernel_rfl
def us_sl17Of := aI @u66_0 (aI @u66_1 (aI @u66_2 (aI @u66_3 (aI @u66_4 (aI @u66_5 (aI @u66_6 (aI @u66_7 (aI @u66_8 (aI @u66_9 (aI @u66_10 @u66_11))))))))))
abbrev b17_1 : X := (.cond (.t 15) (.seq (.reg [4, 5] (.c (.q 4 [] (.mv (.s []))) (.c (.q 5 [] (.mv (.c (.bool false)))) .nil))) .ret) .skip)
def t17_1 := b17_1
theorem u17_1 : vcK P t17_1 k e w = vcK P b17_1 k e w := rfl
abbrev b17_2 : X := (.seq (.reg [4, 5] (.c (.q 16 [] (.fa 3 (.t 6))) (.c (.q 17 [] (.ld (.t 16))) (.c (.q 4 [] (.mv (.t 17))) (.c (.q 5 [] (.mv (.c (.bool true)))) .nil))))) .ret)
def t17_2 := b17_2
theorem u17_2 : vcK P t17_2 k e w = vcK P b17_2 k e w := rfl
abbrev b17_3 : X := (.seq (.seq (.reg [6, 15] (.c (.q 14 [] (.mv (.t 7))) (.c (.q 15 [] (.not (.t 14))) .nil))) t17_1) t17_2)
def t17_3 := b17_3
theorem u17_3 : vcK P t17_3 k e w = vcK P b17_3 k e w := rfl
abbrev b17_4 : X := (.seq (.reg [6, 7] (.c (.q 9 [] (.lda 3 (.t 2))) (.c (.q 10 [] (.lda 2 (.t 3))) (.c (.e (some 11) [] (.call false 67 [(.t 9), (.t 10)])) (.c (.q 8 [] (.mv (.t 11))) (.c (.q 12 [] (.ext 0 (.t 8))) (.c (.q 13 [] (.ext 1 (.t 8))) (.c (.e (some 6) [] (.al 89 [(S []), (S []), (.slice none 0 0), (S [])])) (.c (.e none [] (.st 4 (.t 6) (.t 12))) (.c (.q 7 [] (.mv (.t 13))) .nil)))))))))) t17_3)
def t17_4 := b17_4
theorem u17_4 : vcK P t17_4 k e w = vcK P b17_4 k e w := rfl
abbrev b17_0 : X := (.seq (.reg [2, 3] (.c (.e (some 2) [] (.box 31 (.t 0))) (.c (.e (some 3) [] (.box 33 (.t 1))) (.c (.q 4 [] (.mv (.s []))) (.c (.q 5 [] (.mv (.c (.bool false)))) .nil))))) t17_4)
def x_iSetRow := b17_0
theorem u17_0 : vcK P x_iSetRow k e w = vcK P b17_0 k e w := rfl
def r_iSetRow : List XO := [(.mv (.t 4)), (.mv (.t 5))]
theorem c_iSetRow : convF Try.prog [89, 116, 117, 121, 143, 161, 162, 163, 166, 168, 234] Try.f17 [([2, 3], []), ([6, 7], []), ([6, 15], []), ([4, 5], []), ([4, 5], [])] = some (x_iSetRow, r_iSetRow) := by kernel_rfl
def us_iSetRow := aI @u17_0 (aI @u17_1 (aI @u17_2 (aI @u17_3 @u17_4)))
abbrev b14_1 : X := (.cond (.t 15) (.seq (.reg [4, 5] (.c (.q 4 [] (.mv (.s []))) (.c (.q 5 [] (.mv (.c (.bool false)))) .nil))) .ret) .skip)
def t14_1 := b14_1
theorem u14_1 : vcK P t14_1 k e w = vcK P b14_1 k e w := rfl
abbrev b14_2 : X := (.seq (.reg [4, 5] (.c (.q 16 [] (.fa 2 (.t 6))) (.c (.q 17 [] (.ld (.t 16))) (.c (.q 4 [] (.mv (.t 17))) (.c (.q 5 [] (.mv (.c (.bool true)))) .nil))))) .ret)
def t14_2 := b14_2
theorem u14_2 : vcK P t14_2 k e w = vcK P b14_2 k e w := rfl
abbrev b14_3 : X := (.seq (.seq (.reg [6, 15] (.c (.q 14 [] (.mv (.t 7))) (.c (.q 15 [] (.not (.t 14))) .nil))) t14_1) t14_2)
def t14_3 := b14_3
theorem u14_3 : vcK P t14_3 k e w = vcK P b14_3 k e w := rfl
abbrev b14_4 : X := (.seq (.reg [6, 7] (.c (.q 9 [] (.lda 3 (.t 2))) (.c (.q 10 [] (.lda 2 (.t 3))) (.c (.e (some 11) [] (.call false 66 [(.t 9), (.t 10)])) (.c (.q 8 [] (.mv (.t 11))) (.c (.q 12 [] (.ext 0 (.t 8))) (.c (.q 13 [] (.ext 1 (.t 8))) (.c (.e (some 6) [] (.al 85 [(S []), (S []), (S []), (.slice none 0 0)])) (.c (.e none [] (.st 4 (.t 6) (.t 12))) (.c (.q 7 [] (.mv (.t 13))) .nil)))))))))) t14_3)
def t14_4 := b14_4
theorem u14_4 : vcK P t14_4 k e w = vcK P b14_4 k e w := rfl
abbrev b14_0 : X := (.seq (.reg [2, 3] (.c (.e (some 2) [] (.box 31 (.t 0))) (.c (.e (some 3) [] (.box 33 (.t 1))) (.c (.q 4 [] (.mv (.s []))) (.c (.q 5 [] (.mv (.c (.bool false)))) .nil))))) t14_4)
def x_sSetRow := b14_0
theorem u14_0 : vcK P x_sSetRow k e w = vcK P b14_0 k e w := rfl
def r_sSetRow : List XO := [(.mv (.t 4)), (.mv (.t 5))]
theorem c_sSetRow : convF Try.prog [89, 116, 117, 121, 143, 161, 162, 163, 166, 168, 234] Try.f14 [([2, 3], []), ([6, 7], []), ([6, 15], []), ([4, 5], []), ([4, 5], [])] = some (x_sSetRow, r_sSetRow) := by kernel_rfl
def us_sSetRow := aI @u14_0 (aI @u14_1 (aI @u14_2 (aI @u14_3 @u14_4)))
abbrev b20_1 : X := (.cond (.t 15) (.seq (.reg [4, 5] (.c (.q 4 [] (.mv (.c (.slice none 0 0)))) (.c (.q 5 [] (.mv (.c (.bool false)))) .nil))) .ret) .skip)
def t20_1 := b20_1
theorem u20_1 : vcK P t20_1 k e w = vcK P b20_1 k e w := rfl
abbrev b20_2 : X := (.seq (.reg [4, 5] (.c (.q 16 [] (.fa 2 (.t 6))) (.c (.q 17 [] (.ld (.t 16))) (.c (.q 4 [] (.mv (.t 17))) (.c (.q 5 [] (.mv (.c (.bool true)))) .nil))))) .ret)
def t20_2 := b20_2
theorem u20_2 : vcK P t20_2 k e w = vcK P b20_2 k e w := rfl
abbrev b20_3 : X := (.seq (.seq (.reg [6, 15] (.c (.q 14 [] (.mv (.t 7))) (.c (.q 15 [] (.not (.t 14))) .nil))) t20_1) t20_2)
def t20_3 := b20_3
theorem u20_3 : vcK P t20_3 k e w = vcK P b20_3 k e w := rfl
abbrev b20_4 : X := (.seq (.reg [6, 7] (.c (.q 9 [] (.lda 3 (.t 2))) (.c (.q 10 [] (.lda 2 (.t 3))) (.c (.e (some 11) [] (.call false 67 [(.t 9), (.t 10)])) (.c (.q 8 [] (.mv (.t 11))) (.c (.q 12 [] (.ext 0 (.t 8))) (.c (.q 13 [] (.ext 1 (.t 8))) (.c (.e (some 6) [] (.al 89 [(S []), (S []), (.slice none 0 0), (S [])])) (.c (.e none [] (.st 4 (.t 6) (.t 12))) (.c (.q 7 [] (.mv (.t 13))) .nil)))))))))) t20_3)
def t20_4 := b20_4
theorem u20_4 : vcK P t20_4 k e w = vcK P b20_4 k e w := rfl
abbrev b20_0 : X := (.seq (.reg [2, 3] (.c (.e (some 2) [] (.box 31 (.t 0))) (.c (.e (some 3) [] (.box 33 (.t 1))) (.c (.q 4 [] (.mv (.c (.slice none 0 0)))) (.c (.q 5 [] (.mv (.c (.bool false)))) .nil))))) t20_4)
def x_iLeadGroup := b20_0
theorem u20_0 : vcK P x_iLeadGroup k e w = vcK P b20_0 k e w := rfl
def r_iLeadGroup : List XO := [(.mv (.t 4)), (.mv (.t 5))]
theorem c_iLeadGroup : convF Try.prog [89, 116, 117, 121, 143, 161, 162, 163, 166, 168, 234] Try.f20 [([2, 3], []), ([6, 7], []), ([6, 15], []), ([4, 5], []), ([4, 5], [])] = some (x_iLeadGroup, r_iLeadGroup) := by kernel_rfl
def us_iLeadGroup := aI @u20_0 (aI @u20_1 (aI @u20_2 (aI @u20_3 @u20_4)))
abbrev b19_1 : X := (.cond (.t 15) (.seq (.reg [4, 5] (.c (.q 4 [] (.mv (.c (.slice none 0 0)))) (.c (.q 5 [] (.mv (.c (.bool false)))) .nil))) .ret) .skip)
def t19_1 := b19_1
theorem u19_1 : vcK P t19_1 k e w = vcK P b19_1 k e w := rfl
abbrev b19_2 : X := (.seq (.reg [4, 5] (.c (.q 16 [] (.fa 3 (.t 6))) (.c (.q 17 [] (.ld (.t 16))) (.c (.q 4 [] (.mv (.t 17))) (.c (.q 5 [] (.mv (.c (.bool true)))) .nil))))) .ret)
def t19_2 := b19_2
theorem u19_2 : vcK P t19_2 k e w = vcK P b19_2 k e w := rfl
abbrev b19_3 : X := (.seq (.seq (.reg [6, 15] (.c (.q 14 [] (.mv (.t 7))) (.c (.q 15 [] (.not (.t 14))) .nil))) t19_1) t19_2)
def t19_3 := b19_3
theorem u19_3 : vcK P t19_3 k e w = vcK P b19_3 k e w := rfl
abbrev b19_4 : X := (.seq (.reg [6, 7] (.c (.q 9 [] (.lda 3 (.t 2))) (.c (.q 10 [] (.lda 2 (.t 3))) (.c (.e (some 11) [] (.call false 66 [(.t 9), (.t 10)])) (.c (.q 8 [] (.mv (.t 11))) (.c (.q 12 [] (.ext 0 (.t 8))) (.c (.q 13 [] (.ext 1 (.t 8))) (.c (.e (some 6) [] (.al 85 [(S []), (S []), (S []), (.slice none 0 0)])) (.c (.e none [] (.st 4 (.t 6) (.t 12))) (.c (.q 7 [] (.mv (.t 13))) .nil)))))))))) t19_3)
def t19_4 := b19_4
theorem u19_4 : vcK P t19_4 k e w = vcK P b19_4 k e w := rfl
abbrev b19_0 : X := (.seq (.reg [2, 3] (.c (.e (some 2) [] (.box 31 (.t 0))) (.c (.e (some 3) [] (.box 33 (.t 1))) (.c (.q 4 [] (.mv (.c (.slice none 0 0)))) (.c (.q 5 [] (.mv (.c (.bool false)))) .nil))))) t19_4)
def x_sLeadGroup := b19_0
theorem u19_0 : vcK P x_sLeadGroup k e w = vcK P b19_0 k e w := rfl
def r_sLeadGroup : List XO := [(.mv (.t 4)), (.mv (.t 5))]
theorem c_sLeadGroup : convF Try.prog [89, 116, 117, 121, 143, 161, 162, 163, 166, 168, 234] Try.f19 [([2, 3], []), ([6, 7], []), ([6, 15], []), ([4, 5], []), ([4, 5], [])] = some (x_sLeadGroup, r_sLeadGroup) := by kernel_rfl
def us_sLeadGroup := aI @u19_0 (aI @u19_1 (aI @u19_2 (aI @u19_3 @u19_4)))
end

/-- The cells of what belongs to a method's blocks. -/
def fG (p b : Bs) (v : Value) (q : Bs) : List Value := [S p, S b, v, S q]
theorem fGg (p b : Bs) (v : Value) (q : Bs) : (∀ x, (fG p b v q).getD 0 x = S p) ∧ (∀ x, (fG p b v q).getD 1 x = S b) ∧ (∀ x, (fG p b v q).getD 2 x = v) ∧ (∀ x, (fG p b v q).getD 3 x = S q) ∧ (fG p b v q).length = 4 := ⟨fun _ => rfl, fun _ => rfl, fun _ => rfl, fun _ => rfl, rfl⟩
theorem fG_one (p b : Bs) (v : Value) (q : Bs) (h : v.oneCell' = true) : ∀ u ∈ fG p b v q, u.oneCell' = true := fun u hu => by
  simp only [fG, List.mem_cons, List.not_mem_nil, or_false] at hu
  rcases hu with rfl | rfl | rfl | rfl
  · rfl
  · rfl
  · exact h
  · rfl
def fH (p b q : Bs) (v : Value) : List Value := [S p, S b, S q, v]
theorem fHg (p b q : Bs) (v : Value) : (∀ x, (fH p b q v).getD 0 x = S p) ∧ (∀ x, (fH p b q v).getD 1 x = S b) ∧ (∀ x, (fH p b q v).getD 2 x = S q) ∧ (∀ x, (fH p b q v).getD 3 x = v) ∧ (fH p b q v).length = 4 := ⟨fun _ => rfl, fun _ => rfl, fun _ => rfl, fun _ => rfl, rfl⟩
theorem fH_one (p b q : Bs) (v : Value) (h : v.oneCell' = true) : ∀ u ∈ fH p b q v, u.oneCell' = true := fun u hu => by
  simp only [fH, List.mem_cons, List.not_mem_nil, or_false] at hu
  rcases hu with rfl | rfl | rfl | rfl
  · rfl
  · rfl
  · rfl
  · exact h
/-- The plain and the bobbed lead head. -/
def hP (st : Nat) (cs : List Bs) (b s : Bs) : Bs := headC st cs b s [112]
def hB (st : Nat) (cs : List Bs) (b s : Bs) : Bs := headC st cs b s [98]
/-- The row of the Q-sets. -/
def qR (st : Nat) (cs : List Bs) (b s : Bs) : Bs := timesL (hP st cs b s) (turnL (hB st cs b s))
def grpL (st : Nat) (cs : List Bs) (b s : Bs) : List Bs := genV [hP st cs b s, hB st cs b s] (roundsL st) 130
/-- Valid, and the group is not too large. -/
def BkOk (nm : Bs) (st : Int) (cs : List Bs) (b s : Bs) : Prop := IsMC nm st cs b s ∧ GenOk [hP st.toNat cs b s, hB st.toNat cs b s] (roundsL st.toNat) 130
instance (nm : Bs) (st : Int) (cs : List Bs) (b s : Bs) : Decidable (BkOk nm st cs b s) := by unfold BkOk; infer_instance
theorem hP_row {nm : Bs} {st : Nat} {cs : List Bs} {b s : Bs} (h : IsMC nm st cs b s) : (IsRow (hP st cs b s) ∧ (hP st cs b s).length = st) ∧ (IsRow (hB st cs b s) ∧ (hB st cs b s).length = st) := ⟨headC_row h [112], headC_row h [98]⟩
theorem hP_gens {nm : Bs} {st : Nat} {cs : List Bs} {b s : Bs} (h : IsMC nm st cs b s) : ∀ g ∈ [hP st cs b s, hB st cs b s], IsRow g ∧ g.length = st := fun g hg => by
  simp only [List.mem_cons, List.not_mem_nil, or_false] at hg
  rcases hg with rfl | rfl
  · exact (hP_row h).1
  · exact (hP_row h).2
section
variable (nm : List UInt8) (st : Int) (v : Value) (cs : List (List UInt8)) (b s : List UInt8) (hnm : nm.length ≤ 1048576) (hs : ∀ c ∈ cs, c.length ≤ 1048576) (hl : cs.length ≤ 1000000000) (hb : b.length ≤ 1048576 ∧ s.length ≤ 1048576)
include hnm hs hl hb
theorem inewBlocks_ok (w : World) (h : Sq fS 1 w v cs) : Fn 67 [mV nm st v, kV b s] w (fun r w' => ∃ p q x u L, r = .tuple ⟨[.agg ⟨fG p q x u⟩, .bool (decide (BkOk nm st cs b s))]⟩ ∧ Own fS 1 9 w.heap.size w' x L ∧ (BkOk nm st cs b s → p = hP st.toNat cs b s ∧ q = hB st.toNat cs b s ∧ u = qR st.toNat cs b s ∧ L = grpL st.toNat cs b s)) := by
  (refine callsV_of mix Try.func67 c_inewBlocks ?_; simp only [↓vsd, vsn, gW, qd, qv, ev, pick, argE, zipE, ne_eq, eq_self, forall_const, implies_true, if_true, if_false, reduceIte, reduceCtorEq, Nat.reduceEqDiff, Nat.reduceAdd, Nat.reduceLT, ↓us_inewBlocks, r_inewBlocks])
  refine m_al ?_
  rintro b1 w1 hb1 hblk1 hx1 hs1
  have h1 : Blk w1 b1 (fM nm st v) 31 := hblk1
  simp only [↓vsd, vsn, gW, qd, qv, ev, pick, argE, zipE, ne_eq, eq_self, forall_const, implies_true, if_true, if_false, reduceIte, reduceCtorEq, Nat.reduceEqDiff, Nat.reduceAdd, Nat.reduceLT, ↓us_inewBlocks, r_inewBlocks, h1.facts, fMg]
  refine m_al ?_
  rintro b2 w2 hb2 hblk2 hx2 hs2
  have h2 : Blk w2 b2 (fQ b s) 33 := hblk2
  have h12 := h1.ext hx2
  have hx12 := hx1.trans hx2
  simp only [↓vsd, vsn, gW, qd, qv, ev, pick, argE, zipE, ne_eq, eq_self, forall_const, implies_true, if_true, if_false, reduceIte, reduceCtorEq, Nat.reduceEqDiff, Nat.reduceAdd, Nat.reduceLT, ↓us_inewBlocks, r_inewBlocks, h12.facts, h2.facts, fMg, fQg]
  refine m_al ?_
  rintro b3 w3 hb3 hblk3 hx3 hs3
  have h13 := h12.ext hx3
  have h23 := h2.ext hx3
  have hx13 := hx12.trans hx3
  have h33 : Blk w3 b3 (fG [] [] (.slice none 0 0) []) 89 := hblk3
  simp only [↓vsd, vsn, gW, qd, qv, ev, pick, argE, zipE, ne_eq, eq_self, forall_const, implies_true, if_true, if_false, reduceIte, reduceCtorEq, Nat.reduceEqDiff, Nat.reduceAdd, Nat.reduceLT, ↓us_inewBlocks, r_inewBlocks, h13.facts, h23.facts, fMg, fQg]
  refine m_call (iGoodCalls_ok nm st v cs b s hnm hs hl hb _ (h.ext hx13)) ?_
  rintro _ w4 hx4 rfl
  have h14 := h13.ext hx4
  have h24 := h23.ext hx4
  have h34 := h33.ext hx4
  have hx14 := hx13.trans hx4
  by_cases hM : IsMC nm st cs b s
  · obtain ⟨n, rfl⟩ : ∃ n : Nat, st = n := ⟨st.toNat, by have := hM.1.2.1; omega⟩
    have h8 : 3 ≤ n ∧ n ≤ 8 := by have := hM.1.2.1; omega
    obtain ⟨hp, hq⟩ := hP_row hM
    simp only [↓vsd, vsn, gW, qd, qv, ev, pick, argE, zipE, ne_eq, eq_self, forall_const, implies_true, if_true, if_false, reduceIte, reduceCtorEq, Nat.reduceEqDiff, Nat.reduceAdd, Nat.reduceLT, ↓us_inewBlocks, r_inewBlocks, hM, h14.facts, h24.facts, fMg, fQg]
    refine m_call (icallHead_ok nm n v cs b s [112] hM _ (by first | exact h.ext hx14 | exact h.ext (dr hx14))) ?_
    rintro _ w5 hx5 rfl
    have hx5 : Ext w4 w5 := by first | exact hx5 | exact ud hx5 | exact ud (ud hx5)
    simp only [↓vsd, vsn, gW, qd, qv, ev, pick, argE, zipE, ne_eq, eq_self, forall_const, implies_true, if_true, if_false, reduceIte, reduceCtorEq, Nat.reduceEqDiff, Nat.reduceAdd, Nat.reduceLT, ↓us_inewBlocks, r_inewBlocks]
    have hx15 := hx14.trans hx5
    refine m_call (icallHead_ok nm n v cs b s [98] hM _ (by first | exact h.ext hx15 | exact h.ext (dr hx15))) ?_
    rintro _ w6 hx6 rfl
    have hx6 : Ext w5 w6 := by first | exact hx6 | exact ud hx6 | exact ud (ud hx6)
    have hx16 := hx15.trans hx6
    have h16 := (h14.ext hx5).ext hx6
    have h36 := (h34.ext hx5).ext hx6
    have eP : headC n cs b s [112] = hP n cs b s := rfl
    have eB : headC n cs b s [98] = hB n cs b s := rfl
    simp only [↓vsd, vsn, gW, qd, qv, ev, pick, argE, zipE, ne_eq, eq_self, forall_const, implies_true, if_true, if_false, reduceIte, reduceCtorEq, Nat.reduceEqDiff, Nat.reduceAdd, Nat.reduceLT, ↓us_inewBlocks, r_inewBlocks, h16.facts, fMg, eP, eB]
    refine m_bsl (by simp; exact ⟨rfl, rfl⟩) ?_
    rintro b7 w7 hb7 hblk7 hx7 hs7
    have hx7 : Ext w6 w7 := by first | exact hx7 | exact ud hx7 | exact ud (ud hx7)
    simp only [↓vsd, vsn, gW, qd, qv, ev, pick, argE, zipE, ne_eq, eq_self, forall_const, implies_true, if_true, if_false, reduceIte, reduceCtorEq, Nat.reduceEqDiff, Nat.reduceAdd, Nat.reduceLT, ↓us_inewBlocks, r_inewBlocks]
    have hx17 := hx16.trans hx7
    have hgl : ([hP n cs b s, hB n cs b s] : List Bs).length = 2 := rfl
    have hown7 : Own fS 1 9 w.heap.size w7 (.slice (some ⟨b7, 0, none⟩) 2 2) [hP n cs b s, hB n cs b s] := Own.lits (ls := [hP n cs b s, hB n cs b s]) hblk7 rfl (by have := hx16.size; omega) (by simp)
    refine m_call (igenerated_ok n h8 _ _ 130 (hP_gens hM) (by simp) (by omega) _ hown7.sq) ?_
    rintro _ w8 hx8 ⟨x, rfl, hox⟩
    have hx8 : Ext w7 w8 := by first | exact hx8 | exact ud hx8 | exact ud (ud hx8)
    have hx18 := hx17.trans hx8
    have h38 := (h36.ext hx7).ext hx8
    have h37lt := (h36.ext hx7).lt
    simp only [↓vsd, vsn, gW, qd, qv, ev, pick, argE, zipE, ne_eq, eq_self, forall_const, implies_true, if_true, if_false, reduceIte, reduceCtorEq, Nat.reduceEqDiff, Nat.reduceAdd, Nat.reduceLT, ↓us_inewBlocks, r_inewBlocks]
    refine m_call (iturned_ok _ hq.1 _) ?_
    rintro _ w9 hx9 rfl
    have hx9 : Ext w8 w9 := by first | exact hx9 | exact ud hx9 | exact ud (ud hx9)
    have htl := turnL_len (hB n cs b s)
    have htr := turnL_row hq.1
    simp only [↓vsd, vsn, gW, qd, qv, ev, pick, argE, zipE, ne_eq, eq_self, forall_const, implies_true, if_true, if_false, reduceIte, reduceCtorEq, Nat.reduceEqDiff, Nat.reduceAdd, Nat.reduceLT, ↓us_inewBlocks, r_inewBlocks]
    refine m_call (itimes_ok _ _ htr (by rw [turnL_len, hp.2, hq.2]) _) ?_
    rintro _ w10 hx10 rfl
    have hx10 : Ext w9 w10 := by first | exact hx10 | exact ud hx10 | exact ud (ud hx10)
    have hx8A := hx9.trans hx10
    have hx1A := hx18.trans hx8A
    have h3A := h38.ext hx8A
    have hoA := hox.ext hx8A
    have hone := hoA.sq.one'
    have hoc := of_eq_true hoA.sq.oneC
    simp only [↓vsd, vsn, gW, qd, qv, ev, pick, argE, zipE, ne_eq, eq_self, forall_const, implies_true, if_true, if_false, reduceIte, reduceCtorEq, Nat.reduceEqDiff, Nat.reduceAdd, Nat.reduceLT, ↓us_inewBlocks, r_inewBlocks]
    refine ⟨hoc, m_st h3A rfl (Nat.le_refl 4) (fG_one _ _ x _ hone) ?_⟩
    rintro w11 hb11 hu11
    have h11 : Blk w11 b3 (fG (hP n cs b s) (hB n cs b s) x (qR n cs b s)) 89 := hb11
    have hb3w : w.heap.size ≤ b3 := by have := hx12.size; omega
    have hx11 : Ext w w11 := hu11.below hx1A hb3w
    have ho11 := hoA.upd hu11 (fun e => by have := (hox.bound b3 e).1; have := h37lt; omega)
    simp only [↓vsd, vsn, gW, qd, qv, ev, pick, argE, zipE, ne_eq, eq_self, forall_const, implies_true, if_true, if_false, reduceIte, reduceCtorEq, Nat.reduceEqDiff, Nat.reduceAdd, Nat.reduceLT, ↓us_inewBlocks, r_inewBlocks, h11.facts, fGg]
    have hdec : decide (GenOk [hP n cs b s, hB n cs b s] (roundsL n) 130) = decide (BkOk nm n cs b s) := by
      by_cases hg : GenOk [hP n cs b s, hB n cs b s] (roundsL n) 130
      · rw [decide_eq_true hg, decide_eq_true (show BkOk nm n cs b s from ⟨hM, hg⟩)]
      · rw [decide_eq_false hg, decide_eq_false (fun hh : BkOk nm n cs b s => hg hh.2)]
    exact ⟨hx11, _, _, x, _, _, by rw [hdec], ho11.mono (by have := hx17.size; exact this), fun _ => ⟨rfl, rfl, rfl, rfl⟩⟩
  · have hno : ¬ BkOk nm st cs b s := fun hh => hM hh.1
    simp only [↓vsd, vsn, gW, qd, qv, ev, pick, argE, zipE, ne_eq, eq_self, forall_const, implies_true, if_true, if_false, reduceIte, reduceCtorEq, Nat.reduceEqDiff, Nat.reduceAdd, Nat.reduceLT, ↓us_inewBlocks, r_inewBlocks, hM]
    refine m_st h34 rfl (Nat.le_refl 4) (fG_one [] [] (.slice none 0 0) [] rfl) ?_
    rintro w5 hb5 hu5
    have h35 : Blk w5 b3 (fG [] [] (.slice none 0 0) []) 89 := hb5
    simp only [↓vsd, vsn, gW, qd, qv, ev, pick, argE, zipE, ne_eq, eq_self, forall_const, implies_true, if_true, if_false, reduceIte, reduceCtorEq, Nat.reduceEqDiff, Nat.reduceAdd, Nat.reduceLT, ↓us_inewBlocks, r_inewBlocks, h35.facts, fGg]
    refine ⟨hu5.below hx14 (by have := hx12.size; omega), [], [], .slice none 0 0, [], [], by rw [decide_eq_false hno], Own.nil fS_len, fun hh => absurd hh hno⟩
theorem sl17Of_ok (w : World) (h : Sq fS 1 w v cs) : Fn 66 [mV nm st v, kV b s] w (fun r w' => ∃ p q x u L, r = .tuple ⟨[.agg ⟨fH p q u x⟩, .bool (decide (BkOk nm st cs b s))]⟩ ∧ Own fS 1 9 w.heap.size w' x L ∧ (BkOk nm st cs b s → p = hP st.toNat cs b s ∧ q = hB st.toNat cs b s ∧ u = qR st.toNat cs b s ∧ L = grpL st.toNat cs b s)) := by
  (refine callsV_of mix Try.func66 c_sl17Of ?_; simp only [↓vsd, vsn, gW, qd, qv, ev, pick, argE, zipE, ne_eq, eq_self, forall_const, implies_true, if_true, if_false, reduceIte, reduceCtorEq, Nat.reduceEqDiff, Nat.reduceAdd, Nat.reduceLT, ↓us_sl17Of, r_sl17Of])
  refine m_al ?_
  rintro b1 w1 hb1 hblk1 hx1 hs1
  have h1 : Blk w1 b1 (fM nm st v) 31 := hblk1
  simp only [↓vsd, vsn, gW, qd, qv, ev, pick, argE, zipE, ne_eq, eq_self, forall_const, implies_true, if_true, if_false, reduceIte, reduceCtorEq, Nat.reduceEqDiff, Nat.reduceAdd, Nat.reduceLT, ↓us_sl17Of, r_sl17Of, h1.facts, fMg]
  refine m_al ?_
  rintro b2 w2 hb2 hblk2 hx2 hs2
  have h2 : Blk w2 b2 (fQ b s) 33 := hblk2
  have h12 := h1.ext hx2
  have hx12 := hx1.trans hx2
  simp only [↓vsd, vsn, gW, qd, qv, ev, pick, argE, zipE, ne_eq, eq_self, forall_const, implies_true, if_true, if_false, reduceIte, reduceCtorEq, Nat.reduceEqDiff, Nat.reduceAdd, Nat.reduceLT, ↓us_sl17Of, r_sl17Of, h12.facts, h2.facts, fMg, fQg]
  refine m_al ?_
  rintro b3 w3 hb3 hblk3 hx3 hs3
  have h13 := h12.ext hx3
  have h23 := h2.ext hx3
  have hx13 := hx12.trans hx3
  have h33 : Blk w3 b3 (fH [] [] [] (.slice none 0 0)) 85 := hblk3
  simp only [↓vsd, vsn, gW, qd, qv, ev, pick, argE, zipE, ne_eq, eq_self, forall_const, implies_true, if_true, if_false, reduceIte, reduceCtorEq, Nat.reduceEqDiff, Nat.reduceAdd, Nat.reduceLT, ↓us_sl17Of, r_sl17Of, h13.facts, h23.facts, fMg, fQg]
  refine m_al ?_
  rintro b4 w4 hb4 hblk4 hx4 hs4
  have h14 := h13.ext hx4
  have h24 := h23.ext hx4
  have h34 := h33.ext hx4
  have hx14 := hx13.trans hx4
  have h44 : Blk w4 b4 (fH [] [] [] (.slice none 0 0)) 85 := hblk4
  simp only [↓vsd, vsn, gW, qd, qv, ev, pick, argE, zipE, ne_eq, eq_self, forall_const, implies_true, if_true, if_false, reduceIte, reduceCtorEq, Nat.reduceEqDiff, Nat.reduceAdd, Nat.reduceLT, ↓us_sl17Of, r_sl17Of, h14.facts, h24.facts, fMg, fQg]
  refine m_call (sCallHead_ok nm st v cs b s [112] hnm hs hl hb _ (h.ext hx14)) ?_
  rintro _ w5 hx5 rfl
  have h15 := h14.ext hx5
  have h25 := h24.ext hx5
  have h35 := h34.ext hx5
  have h45 := h44.ext hx5
  have hx15 := hx14.trans hx5
  by_cases hM : IsMC nm st cs b s
  · obtain ⟨n, rfl⟩ : ∃ n : Nat, st = n := ⟨st.toNat, by have := hM.1.2.1; omega⟩
    have h8 : 3 ≤ n ∧ n ≤ 8 := by have := hM.1.2.1; omega
    obtain ⟨hp, hq⟩ := hP_row hM
    have c1 : chV nm n cs b s [112] = .tuple ⟨[S (hP n cs b s), .bool true]⟩ := by rw [chV, if_pos ⟨hM, by decide⟩]; rfl
    have c2 : chV nm n cs b s [98] = .tuple ⟨[S (hB n cs b s), .bool true]⟩ := by rw [chV, if_pos ⟨hM, by decide⟩]; rfl
    simp only [↓vsd, vsn, gW, qd, qv, ev, pick, argE, zipE, ne_eq, eq_self, forall_const, implies_true, if_true, if_false, reduceIte, reduceCtorEq, Nat.reduceEqDiff, Nat.reduceAdd, Nat.reduceLT, ↓us_sl17Of, r_sl17Of, c1, h15.facts, h25.facts, fMg, fQg]
    refine m_call (sCallHead_ok nm n v cs b s [98] hnm hs hl hb _ (h.ext hx15)) ?_
    rintro _ w6 hx6 rfl
    have h36 := h35.ext hx6
    have h46 := h45.ext hx6
    have hx16 := hx15.trans hx6
    simp only [↓vsd, vsn, gW, qd, qv, ev, pick, argE, zipE, ne_eq, eq_self, forall_const, implies_true, if_true, if_false, reduceIte, reduceCtorEq, Nat.reduceEqDiff, Nat.reduceAdd, Nat.reduceLT, ↓us_sl17Of, r_sl17Of, c2, h36.facts, h46.facts, fHg]
    have hw3 : w.heap.size ≤ b3 := by have := hx12.size; omega
    have hw4 : w.heap.size ≤ b4 := by have := hx13.size; omega
    have hSone : ∀ l : Bs, ∀ u ∈ (S l).cells.toList, u.oneCell' = true := fun l u hu => by obtain rfl := List.mem_singleton.1 hu; rfl
    have h34b : b3 ≠ b4 := by have := h33.lt; omega
    refine m_st h46 rfl (by simp [fH]) (hSone _) ?_
    rintro w7 hb7 hu7
    have h47 : Blk w7 b4 (fH (hP n cs b s) [] [] (.slice none 0 0)) 85 := hb7
    have h37 := hu7.blk h36 h34b
    have hx7 : Ext w w7 := hu7.below hx16 hw4
    simp only [↓vsd, vsn, gW, qd, qv, ev, pick, argE, zipE, ne_eq, eq_self, forall_const, implies_true, if_true, if_false, reduceIte, reduceCtorEq, Nat.reduceEqDiff, Nat.reduceAdd, Nat.reduceLT, ↓us_sl17Of, r_sl17Of, h37.facts, h47.facts, fHg]
    refine m_st h47 rfl (by simp [fH]) (hSone _) ?_
    rintro w8 hb8 hu8
    have h48 : Blk w8 b4 (fH (hP n cs b s) (hB n cs b s) [] (.slice none 0 0)) 85 := hb8
    have h38 := hu8.blk h37 h34b
    have hx8 : Ext w w8 := hu8.below hx7 hw4
    simp only [↓vsd, vsn, gW, qd, qv, ev, pick, argE, zipE, ne_eq, eq_self, forall_const, implies_true, if_true, if_false, reduceIte, reduceCtorEq, Nat.reduceEqDiff, Nat.reduceAdd, Nat.reduceLT, ↓us_sl17Of, r_sl17Of, h38.facts, h48.facts, fHg]
    refine m_call (sl1Turn_ok _ hq.1 _) ?_
    rintro _ w9 hx9 rfl
    have hx9 : Ext w8 w9 := by first | exact hx9 | exact ud hx9 | exact ud (ud hx9)
    have htl := turnL_len (hB n cs b s)
    have htr := turnL_row hq.1
    simp only [↓vsd, vsn, gW, qd, qv, ev, pick, argE, zipE, ne_eq, eq_self, forall_const, implies_true, if_true, if_false, reduceIte, reduceCtorEq, Nat.reduceEqDiff, Nat.reduceAdd, Nat.reduceLT, ↓us_sl17Of, r_sl17Of]
    refine m_call (sl1Times_ok _ _ htr (by rw [turnL_len, hp.2, hq.2]) _) ?_
    rintro _ w10 hx10 rfl
    have hx10 : Ext w9 w10 := by first | exact hx10 | exact ud hx10 | exact ud (ud hx10)
    have h4A := (h48.ext hx9).ext hx10
    have h3A := (h38.ext hx9).ext hx10
    have hxA := (hx8.trans hx9).trans hx10
    simp only [↓vsd, vsn, gW, qd, qv, ev, pick, argE, zipE, ne_eq, eq_self, forall_const, implies_true, if_true, if_false, reduceIte, reduceCtorEq, Nat.reduceEqDiff, Nat.reduceAdd, Nat.reduceLT, ↓us_sl17Of, r_sl17Of, h3A.facts, h4A.facts, fHg]
    refine m_st h4A rfl (by simp [fH]) (hSone _) ?_
    rintro w11 hb11 hu11
    have h4B : Blk w11 b4 (fH (hP n cs b s) (hB n cs b s) (qR n cs b s) (.slice none 0 0)) 85 := hb11
    have h3B := hu11.blk h3A h34b
    have hxB : Ext w w11 := hu11.below hxA hw4
    simp only [↓vsd, vsn, gW, qd, qv, ev, pick, argE, zipE, ne_eq, eq_self, forall_const, implies_true, if_true, if_false, reduceIte, reduceCtorEq, Nat.reduceEqDiff, Nat.reduceAdd, Nat.reduceLT, ↓us_sl17Of, r_sl17Of, h3B.facts, h4B.facts, fHg]
    refine m_bsl (by simp; exact ⟨rfl, rfl⟩) ?_
    rintro b12 w12 hb12 hblk12 hxn hs12
    have hxn : Ext w11 w12 := by first | exact hxn | exact ud hxn | exact ud (ud hxn)
    simp only [↓vsd, vsn, gW, qd, qv, ev, pick, argE, zipE, ne_eq, eq_self, forall_const, implies_true, if_true, if_false, reduceIte, reduceCtorEq, Nat.reduceEqDiff, Nat.reduceAdd, Nat.reduceLT, ↓us_sl17Of, r_sl17Of]
    have hxC := hxB.trans hxn
    have hown : Own fS 1 9 w.heap.size w12 (.slice (some ⟨b12, 0, none⟩) 2 2) [hP n cs b s, hB n cs b s] := Own.lits (ls := [hP n cs b s, hB n cs b s]) hblk12 rfl (by have := hxB.size; omega) (by simp)
    refine m_call (sl6Close_ok n h8 _ _ (hP_gens hM) (by simp) _ hown.sq) ?_
    rintro _ w13 hxm ⟨x, rfl, hox⟩
    have hxm : Ext w12 w13 := by first | exact hxm | exact ud hxm | exact ud (ud hxm)
    have hxD := hxC.trans hxm
    have h4D := (h4B.ext hxn).ext hxm
    have h3D := (h3B.ext hxn).ext hxm
    have hone := hox.sq.one'
    have hoc := hox.sq.oneC
    have hbig : b4 < w12.heap.size := (h4B.ext hxn).lt
    simp only [↓vsd, vsn, gW, qd, qv, ev, pick, argE, zipE, ne_eq, eq_self, forall_const, implies_true, if_true, if_false, reduceIte, reduceCtorEq, Nat.reduceEqDiff, Nat.reduceAdd, Nat.reduceLT, ↓us_sl17Of, r_sl17Of, h3D.facts, h4D.facts, fHg]
    refine m_st h4D (by rw [of_eq_true hoc]; rfl) (by simp [fH]) (fun u hu => by rw [of_eq_true hoc] at hu; obtain rfl := List.mem_singleton.1 hu; exact hone) ?_
    rintro w14 hb14 hu14
    have h4E : Blk w14 b4 (fH (hP n cs b s) (hB n cs b s) (qR n cs b s) x) 85 := by
      rw [of_eq_true hoc] at hb14; exact hb14
    have h3E := hu14.blk h3D h34b
    have hxE : Ext w w14 := hu14.below hxD hw4
    have hoE := hox.upd hu14 (hox.away' hbig)
    simp only [↓vsd, vsn, gW, qd, qv, ev, pick, argE, zipE, ne_eq, eq_self, forall_const, implies_true, if_true, if_false, reduceIte, reduceCtorEq, Nat.reduceEqDiff, Nat.reduceAdd, Nat.reduceLT, ↓us_sl17Of, r_sl17Of, h3E.facts, h4E.facts, fHg, hoE.sq.facts]
    refine m_st h3E rfl (Nat.le_refl 4) (fH_one _ _ _ x hone) ?_
    rintro w15 hb15 hu15
    have h3F : Blk w15 b3 (fH (hP n cs b s) (hB n cs b s) (qR n cs b s) x) 85 := hb15
    have hxF : Ext w w15 := hu15.below hxE hw3
    have hoF := hoE.upd hu15 (hoE.away' (by have := h33.lt; omega))
    simp only [↓vsd, vsn, gW, qd, qv, ev, pick, argE, zipE, ne_eq, eq_self, forall_const, implies_true, if_true, if_false, reduceIte, reduceCtorEq, Nat.reduceEqDiff, Nat.reduceAdd, Nat.reduceLT, ↓us_sl17Of, r_sl17Of, h3F.facts, fHg]
    have hfew := gen_few (gens := [hP n cs b s, hB n cs b s]) (e := roundsL n) (m := 130) (n := 800) (by omega)
    have hdec : (decide (GenOk [hP n cs b s, hB n cs b s] (roundsL n) 800) && decide (((genV [hP n cs b s, hB n cs b s] (roundsL n) 800).length : Int) ≤ 130)) = decide (BkOk nm n cs b s) := by
      by_cases hg : GenOk [hP n cs b s, hB n cs b s] (roundsL n) 130
      · have h2 := hfew.2 hg
        have h3 : ((genV [hP n cs b s, hB n cs b s] (roundsL n) 800).length : Int) ≤ 130 := by omega
        rw [decide_eq_true h2.1, decide_eq_true h3, decide_eq_true (show BkOk nm n cs b s from ⟨hM, hg⟩)]; rfl
      · rw [decide_eq_false (fun hh : BkOk nm n cs b s => hg hh.2)]
        by_cases h1 : GenOk [hP n cs b s, hB n cs b s] (roundsL n) 800
        · rw [decide_eq_true h1, decide_eq_false (fun h3 => hg (hfew.1 ⟨h1, by omega⟩))]; rfl
        · rw [decide_eq_false h1]; rfl
    exact ⟨hxF, hP n cs b s, hB n cs b s, x, qR n cs b s, _, by rw [hdec], hoF.mono (by have := hxC.size; exact this), fun hh => ⟨rfl, rfl, rfl, genV_eq (by omega) hh.2⟩⟩
  · have hno : ¬ BkOk nm st cs b s := fun hh => hM hh.1
    have c1 : chV nm st cs b s [112] = .tuple ⟨[S [], .bool false]⟩ := by rw [chV, if_neg (fun hh => hM hh.1)]
    have c2 : chV nm st cs b s [98] = .tuple ⟨[S [], .bool false]⟩ := by rw [chV, if_neg (fun hh => hM hh.1)]
    simp only [↓vsd, vsn, gW, qd, qv, ev, pick, argE, zipE, ne_eq, eq_self, forall_const, implies_true, if_true, if_false, reduceIte, reduceCtorEq, Nat.reduceEqDiff, Nat.reduceAdd, Nat.reduceLT, ↓us_sl17Of, r_sl17Of, c1, h15.facts, h25.facts, fMg, fQg]
    refine m_call (sCallHead_ok nm st v cs b s [98] hnm hs hl hb _ (h.ext hx15)) ?_
    rintro _ w6 hx6 rfl
    have h36 := h35.ext hx6
    have h46 := h45.ext hx6
    have hx16 := hx15.trans hx6
    simp only [↓vsd, vsn, gW, qd, qv, ev, pick, argE, zipE, ne_eq, eq_self, forall_const, implies_true, if_true, if_false, reduceIte, reduceCtorEq, Nat.reduceEqDiff, Nat.reduceAdd, Nat.reduceLT, ↓us_sl17Of, r_sl17Of, c2, h36.facts, h46.facts, fHg]
    refine m_st h36 rfl (Nat.le_refl 4) (fH_one [] [] [] (.slice none 0 0) rfl) ?_
    rintro w7 hb7 hu7
    have h37 : Blk w7 b3 (fH [] [] [] (.slice none 0 0)) 85 := hb7
    simp only [↓vsd, vsn, gW, qd, qv, ev, pick, argE, zipE, ne_eq, eq_self, forall_const, implies_true, if_true, if_false, reduceIte, reduceCtorEq, Nat.reduceEqDiff, Nat.reduceAdd, Nat.reduceLT, ↓us_sl17Of, r_sl17Of, h37.facts, fHg]
    exact ⟨hu7.below hx16 (by have := hx12.size; omega), [], [], .slice none 0 0, [], [], by rw [decide_eq_false hno], Own.nil fS_len, fun hh => absurd hh hno⟩
theorem iSetRow_ok (w : World) (h : Sq fS 1 w v cs) : Fn 17 [mV nm st v, kV b s] w (fun r _ => r = if BkOk nm st cs b s then .tuple ⟨[S (qR st.toNat cs b s), .bool true]⟩ else .tuple ⟨[S [], .bool false]⟩) := by
  (refine callsV_of mix Try.func17 c_iSetRow ?_; simp only [↓vsd, vsn, gW, qd, qv, ev, pick, argE, zipE, ne_eq, eq_self, forall_const, implies_true, if_true, if_false, reduceIte, reduceCtorEq, Nat.reduceEqDiff, Nat.reduceAdd, Nat.reduceLT, ↓us_iSetRow, r_iSetRow])
  refine m_al ?_
  rintro b1 w1 hb1 hblk1 hx1 hs1
  have h1 : Blk w1 b1 (fM nm st v) 31 := hblk1
  simp only [↓vsd, vsn, gW, qd, qv, ev, pick, argE, zipE, ne_eq, eq_self, forall_const, implies_true, if_true, if_false, reduceIte, reduceCtorEq, Nat.reduceEqDiff, Nat.reduceAdd, Nat.reduceLT, ↓us_iSetRow, r_iSetRow, h1.facts, fMg]
  refine m_al ?_
  rintro b2 w2 hb2 hblk2 hx2 hs2
  have h2 : Blk w2 b2 (fQ b s) 33 := hblk2
  have h12 := h1.ext hx2
  have hx12 := hx1.trans hx2
  simp only [↓vsd, vsn, gW, qd, qv, ev, pick, argE, zipE, ne_eq, eq_self, forall_const, implies_true, if_true, if_false, reduceIte, reduceCtorEq, Nat.reduceEqDiff, Nat.reduceAdd, Nat.reduceLT, ↓us_iSetRow, r_iSetRow, h12.facts, h2.facts, fMg, fQg]
  refine m_call (inewBlocks_ok nm st v cs b s hnm hs hl hb _ (h.ext hx12)) ?_
  rintro _ w3 hx3 ⟨p, q, x, u, L, rfl, ho3, hB⟩
  simp only [↓vsd, vsn, gW, qd, qv, ev, pick, argE, zipE, ne_eq, eq_self, forall_const, implies_true, if_true, if_false, reduceIte, reduceCtorEq, Nat.reduceEqDiff, Nat.reduceAdd, Nat.reduceLT, ↓us_iSetRow, r_iSetRow]
  refine m_al ?_
  rintro b4 w4 hb4 hblk4 hx4 hs4
  have h4 : Blk w4 b4 (fG [] [] (.slice none 0 0) []) 89 := hblk4
  have hx14 := (hx12.trans hx3).trans hx4
  simp only [↓vsd, vsn, gW, qd, qv, ev, pick, argE, zipE, ne_eq, eq_self, forall_const, implies_true, if_true, if_false, reduceIte, reduceCtorEq, Nat.reduceEqDiff, Nat.reduceAdd, Nat.reduceLT, ↓us_iSetRow, r_iSetRow]
  refine m_st h4 rfl (Nat.le_refl 4) (fG_one _ _ x _ ho3.sq.one') ?_
  rintro w5 hb5 hu5
  have h5 : Blk w5 b4 (fG p q x u) 89 := hb5
  have hx5 : Ext w w5 := hu5.below hx14 (by have := (hx12.trans hx3).size; omega)
  by_cases hok : BkOk nm st cs b s
  · obtain ⟨_, _, e, _⟩ := hB hok
    simp only [↓vsd, vsn, gW, qd, qv, ev, pick, argE, zipE, ne_eq, eq_self, forall_const, implies_true, if_true, if_false, reduceIte, reduceCtorEq, Nat.reduceEqDiff, Nat.reduceAdd, Nat.reduceLT, ↓us_iSetRow, r_iSetRow, h5.facts, fGg, hok]
    exact ⟨hx5, by rw [e]⟩
  · simp only [↓vsd, vsn, gW, qd, qv, ev, pick, argE, zipE, ne_eq, eq_self, forall_const, implies_true, if_true, if_false, reduceIte, reduceCtorEq, Nat.reduceEqDiff, Nat.reduceAdd, Nat.reduceLT, ↓us_iSetRow, r_iSetRow, h5.facts, fGg, hok]
    exact hx5
theorem sSetRow_ok (w : World) (h : Sq fS 1 w v cs) : Fn 14 [mV nm st v, kV b s] w (fun r _ => r = if BkOk nm st cs b s then .tuple ⟨[S (qR st.toNat cs b s), .bool true]⟩ else .tuple ⟨[S [], .bool false]⟩) := by
  (refine callsV_of mix Try.func14 c_sSetRow ?_; simp only [↓vsd, vsn, gW, qd, qv, ev, pick, argE, zipE, ne_eq, eq_self, forall_const, implies_true, if_true, if_false, reduceIte, reduceCtorEq, Nat.reduceEqDiff, Nat.reduceAdd, Nat.reduceLT, ↓us_sSetRow, r_sSetRow])
  refine m_al ?_
  rintro b1 w1 hb1 hblk1 hx1 hs1
  have h1 : Blk w1 b1 (fM nm st v) 31 := hblk1
  simp only [↓vsd, vsn, gW, qd, qv, ev, pick, argE, zipE, ne_eq, eq_self, forall_const, implies_true, if_true, if_false, reduceIte, reduceCtorEq, Nat.reduceEqDiff, Nat.reduceAdd, Nat.reduceLT, ↓us_sSetRow, r_sSetRow, h1.facts, fMg]
  refine m_al ?_
  rintro b2 w2 hb2 hblk2 hx2 hs2
  have h2 : Blk w2 b2 (fQ b s) 33 := hblk2
  have h12 := h1.ext hx2
  have hx12 := hx1.trans hx2
  simp only [↓vsd, vsn, gW, qd, qv, ev, pick, argE, zipE, ne_eq, eq_self, forall_const, implies_true, if_true, if_false, reduceIte, reduceCtorEq, Nat.reduceEqDiff, Nat.reduceAdd, Nat.reduceLT, ↓us_sSetRow, r_sSetRow, h12.facts, h2.facts, fMg, fQg]
  refine m_call (sl17Of_ok nm st v cs b s hnm hs hl hb _ (h.ext hx12)) ?_
  rintro _ w3 hx3 ⟨p, q, x, u, L, rfl, ho3, hB⟩
  simp only [↓vsd, vsn, gW, qd, qv, ev, pick, argE, zipE, ne_eq, eq_self, forall_const, implies_true, if_true, if_false, reduceIte, reduceCtorEq, Nat.reduceEqDiff, Nat.reduceAdd, Nat.reduceLT, ↓us_sSetRow, r_sSetRow]
  refine m_al ?_
  rintro b4 w4 hb4 hblk4 hx4 hs4
  have h4 : Blk w4 b4 (fH [] [] [] (.slice none 0 0)) 85 := hblk4
  have hx14 := (hx12.trans hx3).trans hx4
  simp only [↓vsd, vsn, gW, qd, qv, ev, pick, argE, zipE, ne_eq, eq_self, forall_const, implies_true, if_true, if_false, reduceIte, reduceCtorEq, Nat.reduceEqDiff, Nat.reduceAdd, Nat.reduceLT, ↓us_sSetRow, r_sSetRow]
  refine m_st h4 rfl (Nat.le_refl 4) (fH_one _ _ _ x ho3.sq.one') ?_
  rintro w5 hb5 hu5
  have h5 : Blk w5 b4 (fH p q u x) 85 := hb5
  have hx5 : Ext w w5 := hu5.below hx14 (by have := (hx12.trans hx3).size; omega)
  by_cases hok : BkOk nm st cs b s
  · obtain ⟨_, _, e, _⟩ := hB hok
    simp only [↓vsd, vsn, gW, qd, qv, ev, pick, argE, zipE, ne_eq, eq_self, forall_const, implies_true, if_true, if_false, reduceIte, reduceCtorEq, Nat.reduceEqDiff, Nat.reduceAdd, Nat.reduceLT, ↓us_sSetRow, r_sSetRow, h5.facts, fHg, hok]
    exact ⟨hx5, by rw [e]⟩
  · simp only [↓vsd, vsn, gW, qd, qv, ev, pick, argE, zipE, ne_eq, eq_self, forall_const, implies_true, if_true, if_false, reduceIte, reduceCtorEq, Nat.reduceEqDiff, Nat.reduceAdd, Nat.reduceLT, ↓us_sSetRow, r_sSetRow, h5.facts, fHg, hok]
    exact hx5
def grpV (nm : Bs) (st : Int) (cs : List Bs) (b s : Bs) : List Bs := if BkOk nm st cs b s then grpL st.toNat cs b s else []
theorem iLeadGroup_ok (w : World) (h : Sq fS 1 w v cs) : Fn 20 [mV nm st v, kV b s] w (fun r w' => ∃ x, r = .tuple ⟨[x, .bool (decide (BkOk nm st cs b s))]⟩ ∧ Own fS 1 9 w.heap.size w' x (grpV nm st cs b s)) := by
  (refine callsV_of mix Try.func20 c_iLeadGroup ?_; simp only [↓vsd, vsn, gW, qd, qv, ev, pick, argE, zipE, ne_eq, eq_self, forall_const, implies_true, if_true, if_false, reduceIte, reduceCtorEq, Nat.reduceEqDiff, Nat.reduceAdd, Nat.reduceLT, ↓us_iLeadGroup, r_iLeadGroup])
  refine m_al ?_
  rintro b1 w1 hb1 hblk1 hx1 hs1
  have h1 : Blk w1 b1 (fM nm st v) 31 := hblk1
  simp only [↓vsd, vsn, gW, qd, qv, ev, pick, argE, zipE, ne_eq, eq_self, forall_const, implies_true, if_true, if_false, reduceIte, reduceCtorEq, Nat.reduceEqDiff, Nat.reduceAdd, Nat.reduceLT, ↓us_iLeadGroup, r_iLeadGroup, h1.facts, fMg]
  refine m_al ?_
  rintro b2 w2 hb2 hblk2 hx2 hs2
  have h2 : Blk w2 b2 (fQ b s) 33 := hblk2
  have h12 := h1.ext hx2
  have hx12 := hx1.trans hx2
  simp only [↓vsd, vsn, gW, qd, qv, ev, pick, argE, zipE, ne_eq, eq_self, forall_const, implies_true, if_true, if_false, reduceIte, reduceCtorEq, Nat.reduceEqDiff, Nat.reduceAdd, Nat.reduceLT, ↓us_iLeadGroup, r_iLeadGroup, h12.facts, h2.facts, fMg, fQg]
  refine m_call (inewBlocks_ok nm st v cs b s hnm hs hl hb _ (h.ext hx12)) ?_
  rintro _ w3 hx3 ⟨p, q, x, u, L, rfl, ho3, hB⟩
  simp only [↓vsd, vsn, gW, qd, qv, ev, pick, argE, zipE, ne_eq, eq_self, forall_const, implies_true, if_true, if_false, reduceIte, reduceCtorEq, Nat.reduceEqDiff, Nat.reduceAdd, Nat.reduceLT, ↓us_iLeadGroup, r_iLeadGroup]
  refine m_al ?_
  rintro b4 w4 hb4 hblk4 hx4 hs4
  have h4 : Blk w4 b4 (fG [] [] (.slice none 0 0) []) 89 := hblk4
  have hx14 := (hx12.trans hx3).trans hx4
  simp only [↓vsd, vsn, gW, qd, qv, ev, pick, argE, zipE, ne_eq, eq_self, forall_const, implies_true, if_true, if_false, reduceIte, reduceCtorEq, Nat.reduceEqDiff, Nat.reduceAdd, Nat.reduceLT, ↓us_iLeadGroup, r_iLeadGroup]
  refine m_st h4 rfl (Nat.le_refl 4) (fG_one _ _ x _ ho3.sq.one') ?_
  rintro w5 hb5 hu5
  have h5 : Blk w5 b4 (fG p q x u) 89 := hb5
  have hx5 : Ext w w5 := hu5.below hx14 (by have := (hx12.trans hx3).size; omega)
  have ho5 := (ho3.ext hx4).upd hu5 (ho3.away (by omega))
  by_cases hok : BkOk nm st cs b s
  · obtain ⟨_, _, _, e⟩ := hB hok
    simp only [↓vsd, vsn, gW, qd, qv, ev, pick, argE, zipE, ne_eq, eq_self, forall_const, implies_true, if_true, if_false, reduceIte, reduceCtorEq, Nat.reduceEqDiff, Nat.reduceAdd, Nat.reduceLT, ↓us_iLeadGroup, r_iLeadGroup, h5.facts, fGg, hok]
    exact ⟨hx5, x, rfl, (ho5.mono hx12.size).to (by rw [grpV, if_pos hok]; exact e)⟩
  · simp only [↓vsd, vsn, gW, qd, qv, ev, pick, argE, zipE, ne_eq, eq_self, forall_const, implies_true, if_true, if_false, reduceIte, reduceCtorEq, Nat.reduceEqDiff, Nat.reduceAdd, Nat.reduceLT, ↓us_iLeadGroup, r_iLeadGroup, h5.facts, fGg, hok]
    exact ⟨hx5, _, rfl, by rw [grpV, if_neg hok]; exact Own.nil fS_len⟩
theorem sLeadGroup_ok (w : World) (h : Sq fS 1 w v cs) : Fn 19 [mV nm st v, kV b s] w (fun r w' => ∃ x, r = .tuple ⟨[x, .bool (decide (BkOk nm st cs b s))]⟩ ∧ Own fS 1 9 w.heap.size w' x (grpV nm st cs b s)) := by
  (refine callsV_of mix Try.func19 c_sLeadGroup ?_; simp only [↓vsd, vsn, gW, qd, qv, ev, pick, argE, zipE, ne_eq, eq_self, forall_const, implies_true, if_true, if_false, reduceIte, reduceCtorEq, Nat.reduceEqDiff, Nat.reduceAdd, Nat.reduceLT, ↓us_sLeadGroup, r_sLeadGroup])
  refine m_al ?_
  rintro b1 w1 hb1 hblk1 hx1 hs1
  have h1 : Blk w1 b1 (fM nm st v) 31 := hblk1
  simp only [↓vsd, vsn, gW, qd, qv, ev, pick, argE, zipE, ne_eq, eq_self, forall_const, implies_true, if_true, if_false, reduceIte, reduceCtorEq, Nat.reduceEqDiff, Nat.reduceAdd, Nat.reduceLT, ↓us_sLeadGroup, r_sLeadGroup, h1.facts, fMg]
  refine m_al ?_
  rintro b2 w2 hb2 hblk2 hx2 hs2
  have h2 : Blk w2 b2 (fQ b s) 33 := hblk2
  have h12 := h1.ext hx2
  have hx12 := hx1.trans hx2
  simp only [↓vsd, vsn, gW, qd, qv, ev, pick, argE, zipE, ne_eq, eq_self, forall_const, implies_true, if_true, if_false, reduceIte, reduceCtorEq, Nat.reduceEqDiff, Nat.reduceAdd, Nat.reduceLT, ↓us_sLeadGroup, r_sLeadGroup, h12.facts, h2.facts, fMg, fQg]
  refine m_call (sl17Of_ok nm st v cs b s hnm hs hl hb _ (h.ext hx12)) ?_
  rintro _ w3 hx3 ⟨p, q, x, u, L, rfl, ho3, hB⟩
  simp only [↓vsd, vsn, gW, qd, qv, ev, pick, argE, zipE, ne_eq, eq_self, forall_const, implies_true, if_true, if_false, reduceIte, reduceCtorEq, Nat.reduceEqDiff, Nat.reduceAdd, Nat.reduceLT, ↓us_sLeadGroup, r_sLeadGroup]
  refine m_al ?_
  rintro b4 w4 hb4 hblk4 hx4 hs4
  have h4 : Blk w4 b4 (fH [] [] [] (.slice none 0 0)) 85 := hblk4
  have hx14 := (hx12.trans hx3).trans hx4
  simp only [↓vsd, vsn, gW, qd, qv, ev, pick, argE, zipE, ne_eq, eq_self, forall_const, implies_true, if_true, if_false, reduceIte, reduceCtorEq, Nat.reduceEqDiff, Nat.reduceAdd, Nat.reduceLT, ↓us_sLeadGroup, r_sLeadGroup]
  refine m_st h4 rfl (Nat.le_refl 4) (fH_one _ _ _ x ho3.sq.one') ?_
  rintro w5 hb5 hu5
  have h5 : Blk w5 b4 (fH p q u x) 85 := hb5
  have hx5 : Ext w w5 := hu5.below hx14 (by have := (hx12.trans hx3).size; omega)
  have ho5 := (ho3.ext hx4).upd hu5 (ho3.away (by omega))
  by_cases hok : BkOk nm st cs b s
  · obtain ⟨_, _, _, e⟩ := hB hok
    simp only [↓vsd, vsn, gW, qd, qv, ev, pick, argE, zipE, ne_eq, eq_self, forall_const, implies_true, if_true, if_false, reduceIte, reduceCtorEq, Nat.reduceEqDiff, Nat.reduceAdd, Nat.reduceLT, ↓us_sLeadGroup, r_sLeadGroup, h5.facts, fHg, hok]
    exact ⟨hx5, x, rfl, (ho5.mono hx12.size).to (by rw [grpV, if_pos hok]; exact e)⟩
  · simp only [↓vsd, vsn, gW, qd, qv, ev, pick, argE, zipE, ne_eq, eq_self, forall_const, implies_true, if_true, if_false, reduceIte, reduceCtorEq, Nat.reduceEqDiff, Nat.reduceAdd, Nat.reduceLT, ↓us_sLeadGroup, r_sLeadGroup, h5.facts, fHg, hok]
    exact ⟨hx5, _, rfl, by rw [grpV, if_neg hok]; exact Own.nil fS_len⟩
end
end Go.Proofs.Ytnhealghpfjdcaa
