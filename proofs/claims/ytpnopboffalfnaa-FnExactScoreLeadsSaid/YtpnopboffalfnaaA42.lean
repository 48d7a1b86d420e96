/-
  The call of the law FnExactScoreLeads.
  Conditions: none.
-/
import Derived.Test.YtpnopboffalfnaaA43
set_option linter.unusedSimpArgs false
set_option linter.unusedVariables false
set_option linter.defProp false
namespace Go.Proofs.Ytpnopboffalfnaa
open Go Go.RowKit
section
variable (P : Program) (k : KT) (e : Env) (w : World)
abbrev b58_1 : X := (.cond (.t 9) .skip (.exit 0))
def t58_1 := b58_1
theorem u58_1 : vcK P t58_1 k e w = vcK P b58_1 k e w := rfl
abbrev b58_2 : X := (.reg [0, 1, 5] (.c (.q 25 [] (.mv (.t 1))) (.c (.q 26 [] (.bin .add (.t 25) (.c (.int .i64 1)))) (.c (.q 1 [] (.mv (.t 26))) .nil))))
def t58_2 := b58_2
theorem u58_2 : vcK P t58_2 k e w = vcK P b58_2 k e w := rfl
abbrev b58_3 : X := (.seq (.reg [0, 1, 5] (.c (.q 20 [] (.mv (.t 0))) (.c (.q 21 [] (.mv (.t 5))) (.c (.q 22 [] (.mv (.t 1))) (.c (.q 23 [] (.ia 2 (.t 20) (.t 21))) (.c (.q 24 [] (.fa 1 (.t 23))) (.c (.e none [] (.st 1 (.t 24) (.t 22))) .nil))))))) t58_2)
def t58_3 := b58_3
theorem u58_3 : vcK P t58_3 k e w = vcK P b58_3 k e w := rfl
abbrev b58_4 : X := (.seq (.reg [0, 1, 5] (.c (.q 18 [] (.mv (.t 1))) (.c (.q 19 [] (.bin .add (.t 18) (.c (.int .i64 1)))) (.c (.q 1 [] (.mv (.t 19))) .nil)))) t58_3)
def t58_4 := b58_4
theorem u58_4 : vcK P t58_4 k e w = vcK P b58_4 k e w := rfl
abbrev b58_5 : X := (.reg [0, 1, 5] (.c (.q 10 [] (.mv (.t 5))) (.c (.q 11 [] (.bin .add (.t 10) (.c (.int .i64 1)))) (.c (.q 5 [] (.mv (.t 11))) .nil))))
def t58_5 := b58_5
theorem u58_5 : vcK P t58_5 k e w = vcK P b58_5 k e w := rfl
abbrev b58_6 : X := (.seq (.blk 1 (.seq (.reg [0, 1, 5] (.c (.q 12 [] (.mv (.t 0))) (.c (.q 13 [] (.mv (.t 5))) (.c (.q 14 [] (.mv (.t 1))) (.c (.e (some 15) [] (.call false 159 [(.t 14)])) (.c (.q 16 [] (.ia 2 (.t 12) (.t 13))) (.c (.q 17 [] (.fa 0 (.t 16))) (.c (.e none [] (.st 1 (.t 17) (.t 15))) .nil)))))))) t58_4)) t58_5)
def t58_6 := b58_6
theorem u58_6 : vcK P t58_6 k e w = vcK P b58_6 k e w := rfl
abbrev b58_7 : X := (.seq (.seq (.reg [0, 1, 5, 9] (.c (.q 6 [] (.mv (.t 5))) (.c (.q 7 [] (.mv (.t 0))) (.c (.q 8 [] (.lens (.t 7))) (.c (.q 9 [] (.bin .lss (.t 6) (.t 8))) .nil))))) t58_1) t58_6)
def t58_7 := b58_7
theorem u58_7 : vcK P t58_7 k e w = vcK P b58_7 k e w := rfl
abbrev b58_8 : X := (.blk 0 (.loop [1, 5] [0] t58_7))
def t58_8 := b58_8
theorem u58_8 : vcK P t58_8 k e w = vcK P b58_8 k e w := rfl
abbrev b58_9 : X := (.seq (.reg [4] (.c (.q 27 [] (.mv (.t 1))) (.c (.q 4 [] (.mv (.t 27))) .nil))) .ret)
def t58_9 := b58_9
theorem u58_9 : vcK P t58_9 k e w = vcK P b58_9 k e w := rfl
abbrev b58_10 : X := (.seq (.seq (.reg [0, 1, 5] (.c (.q 5 [] (.mv (.c (.int .i64 0)))) .nil)) t58_8) t58_9)
def t58_10 := b58_10
theorem u58_10 : vcK P t58_10 k e w = vcK P b58_10 k e w := rfl
abbrev b58_0 : X := (.seq (.reg [0, 1] (.c (.q 4 [] (.mv (.c (.int .i64 0)))) .nil)) t58_10)
def x_lmarkLikedS := b58_0
theorem u58_0 : vcK P x_lmarkLikedS k e w = vcK P b58_0 k e w := rfl
def r_lmarkLikedS : List XO := [(.mv (.t 4))]
theorem c_lmarkLikedS : convF Try.prog [169, 170, 207, 208, 210, 227, 232, 233, 255, 259, 268, 269, 270, 280, 281, 296, 299, 306, 307, 309] Try.f58 [([0, 1], []), ([0, 1, 5], []), ([1, 5], [0]), ([0, 1, 5, 9], []), ([0, 1, 5], []), ([0, 1, 5], []), ([0, 1, 5], []), ([0, 1, 5], []), ([0, 1, 5], []), ([4], [])] = some (x_lmarkLikedS, r_lmarkLikedS) := by kernel_rfl
def us_lmarkLikedS := aI @u58_0 (aI @u58_1 (aI @u58_2 (aI @u58_3 (aI @u58_4 (aI @u58_5 (aI @u58_6 (aI @u58_7 (aI @u58_8 (aI @u58_9 @u58_10)))))))))
abbrev b6_1 : X := (.cond (.t 23) (.seq (.reg [8] (.c (.q 8 [] (.mv (.c (.bool true)))) .nil)) .ret) .skip)
def t6_1 := b6_1
theorem u6_1 : vcK P t6_1 k e w = vcK P b6_1 k e w := rfl
abbrev b6_2 : X := (.cond (.t 28) (.seq (.reg [8] (.c (.q 8 [] (.mv (.c (.bool true)))) .nil)) .ret) .skip)
def t6_2 := b6_2
theorem u6_2 : vcK P t6_2 k e w = vcK P b6_2 k e w := rfl
abbrev b6_3 : X := (.cond (.t 33) (.seq (.reg [8] (.c (.q 8 [] (.mv (.c (.bool true)))) .nil)) .ret) .skip)
def t6_3 := b6_3
theorem u6_3 : vcK P t6_3 k e w = vcK P b6_3 k e w := rfl
abbrev b6_4 : X := (.cond (.t 38) (.seq (.reg [8] (.c (.q 8 [] (.mv (.c (.bool true)))) .nil)) .ret) .skip)
def t6_4 := b6_4
theorem u6_4 : vcK P t6_4 k e w = vcK P b6_4 k e w := rfl
abbrev b6_5 : X := (.cond (.t 71) (.seq (.reg [8] (.c (.q 8 [] (.mv (.c (.bool false)))) .nil)) .ret) .skip)
def t6_5 := b6_5
theorem u6_5 : vcK P t6_5 k e w = vcK P b6_5 k e w := rfl
abbrev b6_6 : X := (.cond (.t 76) (.seq (.reg [8] (.c (.q 8 [] (.mv (.c (.bool false)))) .nil)) .ret) .skip)
def t6_6 := b6_6
theorem u6_6 : vcK P t6_6 k e w = vcK P b6_6 k e w := rfl
abbrev b6_7 : X := (.cond (.t 81) (.seq (.reg [8] (.c (.q 8 [] (.mv (.c (.bool false)))) .nil)) .ret) .skip)
def t6_7 := b6_7
theorem u6_7 : vcK P t6_7 k e w = vcK P b6_7 k e w := rfl
abbrev b6_8 : X := (.cond (.t 100) (.seq (.reg [8] (.c (.q 8 [] (.mv (.c (.bool false)))) .nil)) .ret) .skip)
def t6_8 := b6_8
theorem u6_8 : vcK P t6_8 k e w = vcK P b6_8 k e w := rfl
abbrev b6_9 : X := (.cond (.t 108) (.seq (.reg [8] (.c (.q 8 [] (.mv (.c (.bool false)))) .nil)) .ret) .skip)
def t6_9 := b6_9
theorem u6_9 : vcK P t6_9 k e w = vcK P b6_9 k e w := rfl
abbrev b6_10 : X := (.cond (.t 111) (.seq (.reg [8] (.c (.q 8 [] (.mv (.c (.bool false)))) .nil)) .ret) .skip)
def t6_10 := b6_10
theorem u6_10 : vcK P t6_10 k e w = vcK P b6_10 k e w := rfl
abbrev b6_11 : X := (.cond (.t 131) (.seq (.reg [8] (.c (.q 8 [] (.mv (.c (.bool false)))) .nil)) .ret) .skip)
def t6_11 := b6_11
theorem u6_11 : vcK P t6_11 k e w = vcK P b6_11 k e w := rfl
abbrev b6_12 : X := (.cond (.t 136) (.seq (.reg [8] (.c (.q 8 [] (.mv (.c (.bool false)))) .nil)) .ret) .skip)
def t6_12 := b6_12
theorem u6_12 : vcK P t6_12 k e w = vcK P b6_12 k e w := rfl
abbrev b6_13 : X := (.cond (.t 139) (.seq (.reg [8] (.c (.q 8 [] (.mv (.c (.bool false)))) .nil)) .ret) .skip)
def t6_13 := b6_13
theorem u6_13 : vcK P t6_13 k e w = vcK P b6_13 k e w := rfl
abbrev b6_14 : X := (.seq (.reg [8] (.c (.q 8 [] (.mv (.c (.bool true)))) .nil)) .ret)
def t6_14 := b6_14
theorem u6_14 : vcK P t6_14 k e w = vcK P b6_14 k e w := rfl
abbrev b6_15 : X := (.seq (.seq (.reg [139] (.c (.q 137 [] (.mv (.t 18))) (.c (.q 138 [] (.mv (.t 17))) (.c (.q 139 [] (.bin .neq (.t 137) (.t 138))) .nil)))) t6_13) t6_14)
def t6_15 := b6_15
theorem u6_15 : vcK P t6_15 k e w = vcK P b6_15 k e w := rfl
abbrev b6_16 : X := (.seq (.seq (.reg [17, 18, 136] (.c (.q 135 [] (.mv (.t 18))) (.c (.q 136 [] (.bin .lss (.t 135) (.c (.int .i64 0)))) .nil))) t6_12) t6_15)
def t6_16 := b6_16
theorem u6_16 : vcK P t6_16 k e w = vcK P b6_16 k e w := rfl
abbrev b6_17 : X := (.seq (.reg [17, 18] (.c (.q 132 [] (.mv (.t 14))) (.c (.q 133 [] (.mv (.t 18))) (.c (.e (some 134) [] (.call false 60 [(.t 132), (.t 133)])) (.c (.q 18 [] (.mv (.t 134))) .nil))))) t6_16)
def t6_17 := b6_17
theorem u6_17 : vcK P t6_17 k e w = vcK P b6_17 k e w := rfl
abbrev b6_18 : X := (.seq (.reg [14, 17, 18] (.c (.q 18 [] (.mv (.c (.int .i64 1)))) .nil)) t6_17)
def t6_18 := b6_18
theorem u6_18 : vcK P t6_18 k e w = vcK P b6_18 k e w := rfl
abbrev b6_19 : X := (.seq (.seq (.reg [14, 17, 131] (.c (.q 123 [] (.mv (.t 19))) (.c (.q 124 [] (.mv (.t 10))) (.c (.e (some 125) [] (.call false 54 [(.t 123), (.t 124)])) (.c (.q 126 [] (.not (.t 125))) (.c (.q 127 [] (.mv (.t 126))) (.c (.q 128 [(127, false)] (.mv (.t 20))) (.c (.q 129 [(127, false)] (.mv (.t 11))) (.c (.q 130 [(127, false)] (.beq true (.t 128) (.t 129))) (.c (.q 131 [] (.pick (.t 127) (.c (.bool true)) (.t 130))) .nil)))))))))) t6_11) t6_18)
def t6_19 := b6_19
theorem u6_19 : vcK P t6_19 k e w = vcK P b6_19 k e w := rfl
abbrev b6_20 : X := (.seq (.drw [10, 11, 14, 17, 19, 20] (.c (.q 113 [] (.lda 3 (.t 4))) (.c (.q 115 [] (.lda 2 (.t 5))) (.c (.q 117 [] (.mv (.t 2))) (.c (.q 118 [] (.mv (.t 3))) (.c (.e (some 114) [] (.call false 51 [(.t 113)])) (.c (.e (some 116) [] (.call false 19 [(.t 115)])) (.c (.e (some 119) [] (.call false 52 [(.t 118)])) (.c (.e (some 120) [] (.call false 53 [(.t 114), (.t 116), (.t 117), (.t 119)])) (.c (.q 112 [] (.mv (.t 120))) (.c (.q 121 [] (.ext 0 (.t 112))) (.c (.q 122 [] (.ext 1 (.t 112))) (.c (.q 19 [] (.mv (.t 121))) (.c (.q 20 [] (.mv (.t 122))) .nil)))))))))))))) t6_19)
def t6_20 := b6_20
theorem u6_20 : vcK P t6_20 k e w = vcK P b6_20 k e w := rfl
abbrev b6_21 : X := (.seq (.seq (.reg [2, 3, 4, 5, 10, 11, 14, 17, 111] (.c (.q 109 [] (.mv (.t 18))) (.c (.q 110 [] (.mv (.t 17))) (.c (.q 111 [] (.bin .neq (.t 109) (.t 110))) .nil)))) t6_10) t6_20)
def t6_21 := b6_21
theorem u6_21 : vcK P t6_21 k e w = vcK P b6_21 k e w := rfl
abbrev b6_22 : X := (.seq (.seq (.reg [2, 3, 4, 5, 10, 11, 14, 17, 18, 108] (.c (.q 107 [] (.mv (.t 18))) (.c (.q 108 [] (.bin .lss (.t 107) (.c (.int .i64 0)))) .nil))) t6_9) t6_21)
def t6_22 := b6_22
theorem u6_22 : vcK P t6_22 k e w = vcK P b6_22 k e w := rfl
abbrev b6_23 : X := (.seq (.reg [2, 3, 4, 5, 10, 11, 14, 17, 18] (.c (.q 104 [] (.mv (.t 14))) (.c (.q 105 [] (.mv (.t 18))) (.c (.e (some 106) [] (.call false 60 [(.t 104), (.t 105)])) (.c (.q 18 [] (.mv (.t 106))) .nil))))) t6_22)
def t6_23 := b6_23
theorem u6_23 : vcK P t6_23 k e w = vcK P b6_23 k e w := rfl
abbrev b6_24 : X := (.seq (.reg [2, 3, 4, 5, 10, 11, 14, 17, 18] (.c (.q 18 [] (.mv (.c (.int .i64 1)))) .nil)) t6_23)
def t6_24 := b6_24
theorem u6_24 : vcK P t6_24 k e w = vcK P b6_24 k e w := rfl
abbrev b6_25 : X := (.seq (.reg [2, 3, 4, 5, 10, 11, 14, 17] (.c (.q 101 [] (.mv (.t 14))) (.c (.q 102 [] (.mv (.t 17))) (.c (.e (some 103) [] (.call false 59 [(.t 101), (.t 102)])) (.c (.q 17 [] (.mv (.t 103))) .nil))))) t6_24)
def t6_25 := b6_25
theorem u6_25 : vcK P t6_25 k e w = vcK P b6_25 k e w := rfl
abbrev b6_26 : X := (.seq (.reg [2, 3, 4, 5, 10, 11, 14, 17] (.c (.q 17 [] (.mv (.c (.int .i64 1)))) .nil)) t6_25)
def t6_26 := b6_26
theorem u6_26 : vcK P t6_26 k e w = vcK P b6_26 k e w := rfl
abbrev b6_27 : X := (.seq (.seq (.reg [2, 3, 4, 5, 10, 11, 14, 100] (.c (.q 88 [] (.mv (.t 16))) (.c (.q 89 [] (.bin .lss (.t 88) (.c (.int .i64 0)))) (.c (.q 90 [] (.mv (.t 89))) (.c (.q 91 [(90, false)] (.mv (.t 14))) (.c (.q 92 [(90, false)] (.mv (.t 10))) (.c (.e (some 93) [(90, false)] (.call false 54 [(.t 91), (.t 92)])) (.c (.q 94 [(90, false)] (.not (.t 93))) (.c (.q 95 [] (.pick (.t 90) (.c (.bool true)) (.t 94))) (.c (.q 96 [] (.mv (.t 95))) (.c (.q 97 [(96, false)] (.mv (.t 15))) (.c (.q 98 [(96, false)] (.mv (.t 11))) (.c (.q 99 [(96, false)] (.beq true (.t 97) (.t 98))) (.c (.q 100 [] (.pick (.t 96) (.c (.bool true)) (.t 99))) .nil)))))))))))))) t6_8) t6_26)
def t6_27 := b6_27
theorem u6_27 : vcK P t6_27 k e w = vcK P b6_27 k e w := rfl
abbrev b6_28 : X := (.seq (.reg [2, 3, 4, 5, 10, 11, 14, 15, 16] (.c (.q 85 [] (.mv (.t 13))) (.c (.q 86 [] (.mv (.t 16))) (.c (.e (some 87) [] (.call false 58 [(.t 85), (.t 86)])) (.c (.q 16 [] (.mv (.t 87))) .nil))))) t6_27)
def t6_28 := b6_28
theorem u6_28 : vcK P t6_28 k e w = vcK P b6_28 k e w := rfl
abbrev b6_29 : X := (.seq (.reg [2, 3, 4, 5, 10, 11, 13, 14, 15, 16] (.c (.q 82 [] (.lda 3 (.t 12))) (.c (.q 83 [] (.mv (.t 16))) (.c (.e (some 84) [] (.call false 57 [(.t 82), (.t 83)])) (.c (.q 16 [] (.mv (.t 84))) .nil))))) t6_28)
def t6_29 := b6_29
theorem u6_29 : vcK P t6_29 k e w = vcK P b6_29 k e w := rfl
abbrev b6_30 : X := (.seq (.reg [2, 3, 4, 5, 10, 11, 12, 13, 14, 15, 16] (.c (.q 16 [] (.mv (.c (.int .i64 1)))) .nil)) t6_29)
def t6_30 := b6_30
theorem u6_30 : vcK P t6_30 k e w = vcK P b6_30 k e w := rfl
abbrev b6_31 : X := (.seq (.seq (.reg [2, 3, 4, 5, 10, 11, 12, 13, 14, 15, 81] (.c (.q 77 [] (.mv (.t 13))) (.c (.q 78 [] (.mv (.t 3))) (.c (.e (some 79) [] (.call false 52 [(.t 78)])) (.c (.e (some 80) [] (.call false 56 [(.t 77), (.t 79)])) (.c (.q 81 [] (.not (.t 80))) .nil)))))) t6_7) t6_30)
def t6_31 := b6_31
theorem u6_31 : vcK P t6_31 k e w = vcK P b6_31 k e w := rfl
abbrev b6_32 : X := (.seq (.seq (.drw [2, 3, 4, 5, 10, 11, 12, 13, 14, 15, 76] (.c (.q 72 [] (.lda 3 (.t 12))) (.c (.q 73 [] (.lda 3 (.t 4))) (.c (.e (some 74) [] (.call false 51 [(.t 73)])) (.c (.e (some 75) [] (.call false 55 [(.t 72), (.t 74)])) (.c (.q 76 [] (.not (.t 75))) .nil)))))) t6_6) t6_31)
def t6_32 := b6_32
theorem u6_32 : vcK P t6_32 k e w = vcK P b6_32 k e w := rfl
abbrev b6_33 : X := (.seq (.seq (.reg [2, 3, 4, 5, 10, 11, 12, 13, 14, 15, 71] (.c (.q 63 [] (.mv (.t 14))) (.c (.q 64 [] (.mv (.t 10))) (.c (.e (some 65) [] (.call false 54 [(.t 63), (.t 64)])) (.c (.q 66 [] (.not (.t 65))) (.c (.q 67 [] (.mv (.t 66))) (.c (.q 68 [(67, false)] (.mv (.t 15))) (.c (.q 69 [(67, false)] (.mv (.t 11))) (.c (.q 70 [(67, false)] (.beq true (.t 68) (.t 69))) (.c (.q 71 [] (.pick (.t 67) (.c (.bool true)) (.t 70))) .nil)))))))))) t6_5) t6_32)
def t6_33 := b6_33
theorem u6_33 : vcK P t6_33 k e w = vcK P b6_33 k e w := rfl
abbrev b6_34 : X := (.seq (.drw [2, 3, 4, 5, 10, 11, 12, 13, 14, 15] (.c (.q 55 [] (.lda 3 (.t 12))) (.c (.q 56 [] (.lda 2 (.t 5))) (.c (.q 58 [] (.mv (.t 2))) (.c (.q 59 [] (.mv (.t 13))) (.c (.e (some 57) [] (.call false 19 [(.t 56)])) (.c (.e (some 60) [] (.call false 53 [(.t 55), (.t 57), (.t 58), (.t 59)])) (.c (.q 54 [] (.mv (.t 60))) (.c (.q 61 [] (.ext 0 (.t 54))) (.c (.q 62 [] (.ext 1 (.t 54))) (.c (.q 14 [] (.mv (.t 61))) (.c (.q 15 [] (.mv (.t 62))) .nil)))))))))))) t6_33)
def t6_34 := b6_34
theorem u6_34 : vcK P t6_34 k e w = vcK P b6_34 k e w := rfl
abbrev b6_35 : X := (.seq (.reg [2, 3, 4, 5, 10, 11, 12, 13] (.c (.q 52 [] (.mv (.t 3))) (.c (.e (some 53) [] (.call false 52 [(.t 52)])) (.c (.q 13 [] (.mv (.t 53))) .nil)))) t6_34)
def t6_35 := b6_35
theorem u6_35 : vcK P t6_35 k e w = vcK P b6_35 k e w := rfl
abbrev b6_36 : X := (.seq (.reg [2, 3, 4, 5, 10, 11, 12] (.c (.q 50 [] (.lda 3 (.t 4))) (.c (.e (some 51) [] (.call false 51 [(.t 50)])) (.c (.e (some 12) [] (.al 41 [(S []), (.int .i64 0), (.slice none 0 0)])) (.c (.e none [] (.st 3 (.t 12) (.t 51))) .nil))))) t6_35)
def t6_36 := b6_36
theorem u6_36 : vcK P t6_36 k e w = vcK P b6_36 k e w := rfl
abbrev b6_37 : X := (.seq (.drw [2, 3, 4, 5, 10, 11] (.c (.q 40 [] (.lda 3 (.t 4))) (.c (.q 42 [] (.lda 2 (.t 5))) (.c (.q 44 [] (.mv (.t 2))) (.c (.q 45 [] (.mv (.t 3))) (.c (.e (some 41) [] (.call false 51 [(.t 40)])) (.c (.e (some 43) [] (.call false 19 [(.t 42)])) (.c (.e (some 46) [] (.call false 52 [(.t 45)])) (.c (.e (some 47) [] (.call false 50 [(.t 41), (.t 43), (.t 44), (.t 46)])) (.c (.q 39 [] (.mv (.t 47))) (.c (.q 48 [] (.ext 0 (.t 39))) (.c (.q 49 [] (.ext 1 (.t 39))) (.c (.q 10 [] (.mv (.t 48))) (.c (.q 11 [] (.mv (.t 49))) .nil)))))))))))))) t6_36)
def t6_37 := b6_37
theorem u6_37 : vcK P t6_37 k e w = vcK P b6_37 k e w := rfl
abbrev b6_38 : X := (.seq (.seq (.reg [2, 3, 4, 5, 38] (.c (.q 37 [] (.mv (.t 9))) (.c (.q 38 [] (.bin .lss (.t 37) (.c (.int .i64 0)))) .nil))) t6_4) t6_37)
def t6_38 := b6_38
theorem u6_38 : vcK P t6_38 k e w = vcK P b6_38 k e w := rfl
abbrev b6_39 : X := (.seq (.reg [2, 3, 4, 5, 9] (.c (.q 34 [] (.mv (.t 3))) (.c (.q 35 [] (.mv (.t 9))) (.c (.e (some 36) [] (.call false 49 [(.t 34), (.t 35)])) (.c (.q 9 [] (.mv (.t 36))) .nil))))) t6_38)
def t6_39 := b6_39
theorem u6_39 : vcK P t6_39 k e w = vcK P b6_39 k e w := rfl
abbrev b6_40 : X := (.seq (.seq (.reg [2, 3, 4, 5, 9, 33] (.c (.q 32 [] (.mv (.t 9))) (.c (.q 33 [] (.bin .lss (.t 32) (.c (.int .i64 0)))) .nil))) t6_3) t6_39)
def t6_40 := b6_40
theorem u6_40 : vcK P t6_40 k e w = vcK P b6_40 k e w := rfl
abbrev b6_41 : X := (.seq (.reg [2, 3, 4, 5, 9] (.c (.q 29 [] (.lda 2 (.t 5))) (.c (.q 30 [] (.mv (.t 9))) (.c (.e (some 31) [] (.call false 16 [(.t 29), (.t 30)])) (.c (.q 9 [] (.mv (.t 31))) .nil))))) t6_40)
def t6_41 := b6_41
theorem u6_41 : vcK P t6_41 k e w = vcK P b6_41 k e w := rfl
abbrev b6_42 : X := (.seq (.seq (.reg [2, 3, 4, 5, 9, 28] (.c (.q 27 [] (.mv (.t 9))) (.c (.q 28 [] (.bin .lss (.t 27) (.c (.int .i64 0)))) .nil))) t6_2) t6_41)
def t6_42 := b6_42
theorem u6_42 : vcK P t6_42 k e w = vcK P b6_42 k e w := rfl
abbrev b6_43 : X := (.seq (.reg [2, 3, 4, 5, 9] (.c (.q 24 [] (.lda 3 (.t 4))) (.c (.q 25 [] (.mv (.t 9))) (.c (.e (some 26) [] (.call false 48 [(.t 24), (.t 25)])) (.c (.q 9 [] (.mv (.t 26))) .nil))))) t6_42)
def t6_43 := b6_43
theorem u6_43 : vcK P t6_43 k e w = vcK P b6_43 k e w := rfl
abbrev b6_44 : X := (.seq (.reg [2, 3, 4, 5, 9] (.c (.q 9 [] (.mv (.c (.int .i64 1048576)))) .nil)) t6_43)
def t6_44 := b6_44
theorem u6_44 : vcK P t6_44 k e w = vcK P b6_44 k e w := rfl
abbrev b6_45 : X := (.seq (.seq (.reg [2, 3, 4, 5, 23] (.c (.q 21 [] (.mv (.t 2))) (.c (.q 22 [] (.len (.t 21))) (.c (.q 23 [] (.bin .gtr (.t 22) (.c (.int .i64 1048576)))) .nil)))) t6_1) t6_44)
def t6_45 := b6_45
theorem u6_45 : vcK P t6_45 k e w = vcK P b6_45 k e w := rfl
abbrev b6_0 : X := (.seq (.reg [2, 3, 4, 5] (.c (.e (some 4) [] (.box 65 (.t 0))) (.c (.e (some 5) [] (.box 24 (.t 1))) (.c (.q 8 [] (.mv (.c (.bool false)))) .nil)))) t6_45)
def x_lFnExactScoreLeads := b6_0
theorem u6_0 : vcK P x_lFnExactScoreLeads k e w = vcK P b6_0 k e w := rfl
def r_lFnExactScoreLeads : List XO := [(.mv (.t 8))]
theorem c_lFnExactScoreLeads : convF Try.prog [169, 170, 207, 208, 210, 227, 232, 233, 255, 259, 268, 269, 270, 280, 281, 296, 299, 306, 307, 309] Try.f6 [([2, 3, 4, 5], []), ([2, 3, 4, 5, 23], []), ([8], []), ([2, 3, 4, 5, 9], []), ([2, 3, 4, 5, 9], []), ([2, 3, 4, 5, 9, 28], []), ([8], []), ([2, 3, 4, 5, 9], []), ([2, 3, 4, 5, 9, 33], []), ([8], []), ([2, 3, 4, 5, 9], []), ([2, 3, 4, 5, 38], []), ([8], []), ([2, 3, 4, 5, 10, 11], []), ([2, 3, 4, 5, 10, 11, 12], []), ([2, 3, 4, 5, 10, 11, 12, 13], []), ([2, 3, 4, 5, 10, 11, 12, 13, 14, 15], []), ([2, 3, 4, 5, 10, 11, 12, 13, 14, 15, 71], []), ([8], []), ([2, 3, 4, 5, 10, 11, 12, 13, 14, 15, 76], []), ([8], []), ([2, 3, 4, 5, 10, 11, 12, 13, 14, 15, 81], []), ([8], []), ([2, 3, 4, 5, 10, 11, 12, 13, 14, 15, 16], []), ([2, 3, 4, 5, 10, 11, 13, 14, 15, 16], []), ([2, 3, 4, 5, 10, 11, 14, 15, 16], []), ([2, 3, 4, 5, 10, 11, 14, 100], []), ([8], []), ([2, 3, 4, 5, 10, 11, 14, 17], []), ([2, 3, 4, 5, 10, 11, 14, 17], []), ([2, 3, 4, 5, 10, 11, 14, 17, 18], []), ([2, 3, 4, 5, 10, 11, 14, 17, 18], []), ([2, 3, 4, 5, 10, 11, 14, 17, 18, 108], []), ([8], []), ([2, 3, 4, 5, 10, 11, 14, 17, 111], []), ([8], []), ([10, 11, 14, 17, 19, 20], []), ([14, 17, 131], []), ([8], []), ([14, 17, 18], []), ([17, 18], []), ([17, 18, 136], []), ([8], []), ([139], []), ([8], []), ([8], [])] = some (x_lFnExactScoreLeads, r_lFnExactScoreLeads) := by kernel_rfl
def us_lFnExactScoreLeads := aI @u6_0 (aI @u6_1 (aI @u6_2 (aI @u6_3 (aI @u6_4 (aI @u6_5 (aI @u6_6 (aI @u6_7 (aI @u6_8 (aI @u6_9 (aI @u6_10 (aI @u6_11 (aI @u6_12 (aI @u6_13 (aI @u6_14 (aI @u6_15 (aI @u6_16 (aI @u6_17 (aI @u6_18 (aI @u6_19 (aI @u6_20 (aI @u6_21 (aI @u6_22 (aI @u6_23 (aI @u6_24 (aI @u6_25 (aI @u6_26 (aI @u6_27 (aI @u6_28 (aI @u6_29 (aI @u6_30 (aI @u6_31 (aI @u6_32 (aI @u6_33 (aI @u6_34 (aI @u6_35 (aI @u6_36 (aI @u6_37 (aI @u6_38 (aI @u6_39 (aI @u6_40 (aI @u6_41 (aI @u6_42 (aI @u6_43 (aI @u6_44 @u6_45))))))))))))))))))))))))))))))))))))))))))))
end

theorem lszLikedS_okn (v : Value) (l : List LK) (n0 : Int) (hn0 : 0 ≤ n0 ∧ n0 ≤ 1048576) (hl : l.length ≤ 9223372036854775807) (hs : ∀ x ∈ l, x.pat.length ≤ 9223372036854775807) (w : World) (h : Sq fK 2 w v l) :
    Fn 49 [v, .int .i64 n0] w (fun v _ => ∃ m : Int, v = .int .i64 m ∧ m ≤ 1048576 ∧ (0 ≤ m → l.length ≤ 1048576 ∧ ∀ x ∈ l, x.pat.length ≤ 1048576)) := by
  (refine callsV_of mix Try.func49 c_lszLikedS ?_; simp only [↓vsd, vsn, gW, qd, qv, ev, pick, argE, zipE, ne_eq, eq_self, forall_const, implies_true, if_true, if_false, reduceIte, reduceCtorEq, Nat.reduceEqDiff, Nat.reduceAdd, Nat.reduceLT, ↓us_lszLikedS, r_lszLikedS])
  simp only [↓vsd, vsn, gW, qd, qv, ev, pick, argE, zipE, ne_eq, eq_self, forall_const, implies_true, if_true, if_false, reduceIte, reduceCtorEq, Nat.reduceEqDiff, Nat.reduceAdd, Nat.reduceLT, ↓us_lszLikedS, r_lszLikedS, h.facts]
  refine ⟨inR_i64 (by omega), fun hlt => ⟨Ext.refl _, -1, rfl, by omega, fun h => by omega⟩, fun hge => ?_⟩
  refine m_upto l.length (fun k vs w' => ∃ m : Int, vs = [.int .i64 m, .int .i64 k] ∧ 0 ≤ m ∧ m ≤ 1048576 ∧ (∀ x ∈ l.take k, x.pat.length ≤ 1048576) ∧ Ext w w') ⟨_, rfl, by omega, by omega, by simp, Ext.refl _⟩ ?_
  rintro k vs w1 hk ⟨m, rfl, h0, h1, hall, hx⟩
  have hq := h.ext hx
  by_cases hlt : k < l.length
  · simp only [↓vsd, vsn, gW, qd, qv, ev, pick, argE, zipE, ne_eq, eq_self, forall_const, implies_true, if_true, if_false, reduceIte, reduceCtorEq, Nat.reduceEqDiff, Nat.reduceAdd, Nat.reduceLT, ↓us_lszLikedS, r_lszLikedS, hq.facts, hq.ata ⟨[], 0⟩ hlt]
    refine ⟨fun _ => ⟨by omega, ?_⟩, fun h => by omega⟩
    have hmem : l.getD k ⟨[], 0⟩ ∈ l := by rw [List.getD_eq_getElem?_getD, List.getElem?_eq_getElem hlt]; exact List.getElem_mem hlt
    have := hs _ hmem
    refine m_call (lszLiked_ok _ m (by omega) _) ?_
    rintro _ w2 hx2 rfl
    simp only [↓vsd, vsn, gW, qd, qv, ev, pick, argE, zipE, ne_eq, eq_self, forall_const, implies_true, if_true, if_false, reduceIte, reduceCtorEq, Nat.reduceEqDiff, Nat.reduceAdd, Nat.reduceLT, ↓us_lszLikedS, r_lszLikedS]
    unfold szK
    split
    · refine ⟨fun _ => ⟨hx.trans hx2, -1, rfl, by omega, fun h => by omega⟩, fun h => by omega⟩
    · refine ⟨fun _ => by omega, fun _ => ⟨inR_i64 (by omega), UpTo.next hlt ⟨_, rfl, by omega, by omega, fun x hx => ?_, hx.trans hx2⟩⟩⟩
      rw [List.take_add_one, List.getElem?_eq_getElem hlt] at hx
      rcases List.mem_append.1 hx with h | h
      · exact hall x h
      · rw [List.getD_eq_getElem?_getD, List.getElem?_eq_getElem hlt] at *
        simp only [Option.toList_some, List.mem_singleton, Option.getD_some] at *
        subst h
        omega
  · obtain rfl : k = l.length := by omega
    simp only [↓vsd, vsn, gW, qd, qv, ev, pick, argE, zipE, ne_eq, eq_self, forall_const, implies_true, if_true, if_false, reduceIte, reduceCtorEq, Nat.reduceEqDiff, Nat.reduceAdd, Nat.reduceLT, ↓us_lszLikedS, r_lszLikedS, hq.facts]
    exact ⟨fun h => by omega, fun _ => ⟨hx, m, rfl, h1, fun _ => ⟨by omega, by simpa using hall⟩⟩⟩
/-- Marks written into scored patterns: only their number counts. -/
theorem lmarkLikedS_ok (v : Value) (l : List LK) (B k : Nat) (hl : l.length ≤ 2000000) (hk : k ≤ 1000000000) (w : World) (h : Own fK 2 151 B w v l) :
    CallsV Try.prog 58 [v, .int .i64 k] w (fun v' w' => v' = .int .i64 (k + 2 * l.length : Nat) ∧ (∃ l', Own fK 2 151 B w' v l' ∧ l'.length = l.length) ∧ w.grownBy w' v.ownBlock) := by
  (refine callsV_of mix Try.func58 c_lmarkLikedS ?_; simp only [↓vsd, vsn, gW, qd, qv, ev, pick, argE, zipE, ne_eq, eq_self, forall_const, implies_true, if_true, if_false, reduceIte, reduceCtorEq, Nat.reduceEqDiff, Nat.reduceAdd, Nat.reduceLT, ↓us_lmarkLikedS, r_lmarkLikedS])
  refine m_upto l.length (fun i vs w' => vs = [.int .i64 (k + 2 * i : Nat), .int .i64 i] ∧ (∃ l', Own fK 2 151 B w' v l' ∧ l'.length = l.length) ∧ w.grownBy w' v.ownBlock) ⟨rfl, ⟨l, h, rfl⟩, grown_refl _ _⟩ ?_
  rintro i vs w1 hi ⟨rfl, ⟨l', ho, hlen⟩, hg⟩
  by_cases hlt : i < l.length
  · have hltI : (i : Int) < l.length := by omega
    have hltJ : ¬ (l.length : Int) ≤ i := by omega
    simp only [↓vsd, vsn, gW, qd, qv, ev, pick, argE, zipE, ne_eq, eq_self, forall_const, implies_true, if_true, if_false, reduceIte, reduceCtorEq, Nat.reduceEqDiff, Nat.reduceAdd, Nat.reduceLT, ↓us_lmarkLikedS, r_lmarkLikedS, ho.sq.facts, hlen, hltI, hltJ]
    refine m_call (lmarkText_ok (k + 2 * i) (by omega) _) ?_
    rintro _ w2 hx2 rfl
    have ho2 := ho.ext hx2
    simp only [↓vsd, vsn, gW, qd, qv, ev, pick, argE, zipE, ne_eq, eq_self, forall_const, implies_true, if_true, if_false, reduceIte, reduceCtorEq, Nat.reduceEqDiff, Nat.reduceAdd, Nat.reduceLT, ↓us_lmarkLikedS, r_lmarkLikedS, ho2.sq.facts, hlen]
    have hP : ∀ w', ∀ l2 : List LK, Own fK 2 151 B w' v l2 → l2.length = l.length → isP (iaV 2 v (.int .i64 i)) := fun w' l2 h2 e => by
      obtain ⟨a, e, _⟩ := h2.sq.2.at .i64 i (by omega)
      rw [e]; trivial
    refine ⟨by omega, hP _ _ ho2 hlen, ?_⟩
    refine m_set i ⟨[], 0⟩ ⟨markL (k + 2 * i), (l'.getD i ⟨[], 0⟩).wt⟩ ho2 rfl (by omega) rfl (by decide) (fun u hu => by obtain rfl := List.mem_singleton.1 hu; rfl) rfl ?_
    rintro w3 ho3 hg3 _
    have hl3 : (l'.set i ⟨markL (k + 2 * i), (l'.getD i ⟨[], 0⟩).wt⟩).length = l.length := by rw [List.length_set, hlen]
    simp only [↓vsd, vsn, gW, qd, qv, ev, pick, argE, zipE, ne_eq, eq_self, forall_const, implies_true, if_true, if_false, reduceIte, reduceCtorEq, Nat.reduceEqDiff, Nat.reduceAdd, Nat.reduceLT, ↓us_lmarkLikedS, r_lmarkLikedS, ho3.sq.facts, hl3]
    refine ⟨inR_i64 (by omega), by omega, hP _ _ ho3 hl3, ?_⟩
    refine m_set i ⟨[], 0⟩ ⟨markL (k + 2 * i), (k + 2 * i + 1 : Nat)⟩ ho3 rfl (by omega) rfl (by decide) (fun u hu => by obtain rfl := List.mem_singleton.1 hu; rfl) (by rw [getD_set, if_pos ⟨rfl, by omega⟩]; rfl) ?_
    rintro w4 ho4 hg4 _
    simp only [↓vsd, vsn, gW, qd, qv, ev, pick, argE, zipE, ne_eq, eq_self, forall_const, implies_true, if_true, if_false, reduceIte, reduceCtorEq, Nat.reduceEqDiff, Nat.reduceAdd, Nat.reduceLT, ↓us_lmarkLikedS, r_lmarkLikedS]
    exact ⟨inR_i64 (by omega), inR_i64 (by omega), UpTo.next hlt ⟨by simp; omega, ⟨_, ho4, by rw [List.length_set, hl3]⟩, grown_trans (grown_trans (grown_trans hg (grown_ext _ hx2)) hg3) hg4⟩⟩
  · obtain rfl : i = l.length := by omega
    have hltI : ¬ (l.length : Int) < l.length := by omega
    simp only [↓vsd, vsn, gW, qd, qv, ev, pick, argE, zipE, ne_eq, eq_self, forall_const, implies_true, if_true, if_false, reduceIte, reduceCtorEq, Nat.reduceEqDiff, Nat.reduceAdd, Nat.reduceLT, ↓us_lmarkLikedS, r_lmarkLikedS, ho.sq.facts, hlen, hltI]
    exact ⟨⟨l', ho, hlen⟩, hg⟩
theorem lFnExactScoreLeads_ok (nm : List UInt8) (st : Int) (v u : Value) (cs : List (List UInt8)) (b s t : List UInt8) (ks : List LK) (hnm : nm.length ≤ 9223372036854775807) (hl : cs.length ≤ 9223372036854775807) (hs : ∀ x ∈ cs, x.length ≤ 9223372036854775807) (hb : b.length ≤ 9223372036854775807 ∧ s.length ≤ 9223372036854775807) (hkl : ks.length ≤ 9223372036854775807) (hkp : ∀ x ∈ ks, x.pat.length ≤ 9223372036854775807) (w : World) (h : Sq fS 1 w v cs) (h' : Sq fK 2 w u ks) : Fn 6 [mV nm st v, kV b s, S t, u] w (fun r _ => r = .bool true) := by
  (refine callsV_of mix Try.func6 c_lFnExactScoreLeads ?_; simp only [↓vsd, vsn, gW, qd, qv, ev, pick, argE, zipE, ne_eq, eq_self, forall_const, implies_true, if_true, if_false, reduceIte, reduceCtorEq, Nat.reduceEqDiff, Nat.reduceAdd, Nat.reduceLT, ↓us_lFnExactScoreLeads, r_lFnExactScoreLeads])
  refine m_al ?_
  rintro b1 w1 hb1 hblk1 hx1 hs1
  have h1 : Blk w1 b1 (fM nm st v) 65 := hblk1
  simp only [↓vsd, vsn, gW, qd, qv, ev, pick, argE, zipE, ne_eq, eq_self, forall_const, implies_true, if_true, if_false, reduceIte, reduceCtorEq, Nat.reduceEqDiff, Nat.reduceAdd, Nat.reduceLT, ↓us_lFnExactScoreLeads, r_lFnExactScoreLeads, h1.facts, fMg]
  refine m_al ?_
  rintro b2 w2 hb2 hblk2 hx2 hs2
  have h2 : Blk w2 b2 (fQ b s) 24 := hblk2
  have h12 := h1.ext hx2
  have hx12 := hx1.trans hx2
  simp only [↓vsd, vsn, gW, qd, qv, ev, pick, argE, zipE, ne_eq, eq_self, forall_const, implies_true, if_true, if_false, reduceIte, reduceCtorEq, Nat.reduceEqDiff, Nat.reduceAdd, Nat.reduceLT, ↓us_lFnExactScoreLeads, r_lFnExactScoreLeads, h12.facts, h2.facts, fMg, fQg]
  refine ⟨fun _ => hx12, fun hcall => ?_⟩
  have ht : t.length ≤ 1000000000 := by omega
  refine m_call (lszMethod_ok nm st v cs 1048576 (by decide) hnm hl hs _ (h.ext hx12)) ?_
  rintro _ w3 hx3 ⟨m, rfl, hm1, hm⟩
  have hx13 := hx12.trans hx3
  have h13 := h12.ext hx3
  have h23 := h2.ext hx3
  simp only [↓vsd, vsn, gW, qd, qv, ev, pick, argE, zipE, ne_eq, eq_self, forall_const, implies_true, if_true, if_false, reduceIte, reduceCtorEq, Nat.reduceEqDiff, Nat.reduceAdd, Nat.reduceLT, ↓us_lFnExactScoreLeads, r_lFnExactScoreLeads, h13.facts, h23.facts, fMg, fQg]
  refine ⟨fun _ => hx13, fun h0 => ?_⟩
  obtain ⟨hnm, hl, hs⟩ := hm h0
  refine m_call (lszCalls_ok b s m ⟨hm1, h0⟩ hb _) ?_
  rintro _ w4 hx4 ⟨m2, rfl, hm21, hm2⟩
  have hx14 := hx13.trans hx4
  have h14 := h13.ext hx4
  have h24 := h23.ext hx4
  simp only [↓vsd, vsn, gW, qd, qv, ev, pick, argE, zipE, ne_eq, eq_self, forall_const, implies_true, if_true, if_false, reduceIte, reduceCtorEq, Nat.reduceEqDiff, Nat.reduceAdd, Nat.reduceLT, ↓us_lFnExactScoreLeads, r_lFnExactScoreLeads, h14.facts, h24.facts, fMg, fQg]
  refine ⟨fun _ => hx14, fun h02 => ?_⟩
  have hb := hm2 h02
  refine m_call (lszLikedS_okn u ks m2 ⟨h02, hm21⟩ hkl hkp _ (h'.ext hx14)) ?_
  rintro _ w44 hx44 ⟨m3, rfl, _, hm3⟩
  have hx14 := hx14.trans hx44
  have h14 := h14.ext hx44
  have h24 := h24.ext hx44
  simp only [↓vsd, vsn, gW, qd, qv, ev, pick, argE, zipE, ne_eq, eq_self, forall_const, implies_true, if_true, if_false, reduceIte, reduceCtorEq, Nat.reduceEqDiff, Nat.reduceAdd, Nat.reduceLT, ↓us_lFnExactScoreLeads, r_lFnExactScoreLeads, h14.facts, h24.facts, fMg, fQg]
  refine ⟨fun _ => hx14, fun h03 => ?_⟩
  obtain ⟨hkl, hkp⟩ := hm3 h03
  have hcl : cs.length ≤ 1000000000 := by omega
  refine m_call (ltoMethod_ok nm st v cs hl _ (by first | exact h.ext hx14 | exact h.ext (dr hx14))) ?_
  rintro _ w5 hx5 ⟨x5, rfl, ho5⟩
  have hx5 : Ext w44 w5 := by first | exact hx5 | exact ud hx5 | exact ud (ud hx5)
  have h25 := h24.ext hx5
  have hx15 := hx14.trans hx5
  simp only [↓vsd, vsn, gW, qd, qv, ev, pick, argE, zipE, ne_eq, eq_self, forall_const, implies_true, if_true, if_false, reduceIte, reduceCtorEq, Nat.reduceEqDiff, Nat.reduceAdd, Nat.reduceLT, ↓us_lFnExactScoreLeads, r_lFnExactScoreLeads, h25.facts, fQg]
  refine m_call (ltoCalls_ok b s _) ?_
  rintro _ w6 hx6 rfl
  have hx6 : Ext w5 w6 := by first | exact hx6 | exact ud hx6 | exact ud (ud hx6)
  have hx16 := hx15.trans hx6
  simp only [↓vsd, vsn, gW, qd, qv, ev, pick, argE, zipE, ne_eq, eq_self, forall_const, implies_true, if_true, if_false, reduceIte, reduceCtorEq, Nat.reduceEqDiff, Nat.reduceAdd, Nat.reduceLT, ↓us_lFnExactScoreLeads, r_lFnExactScoreLeads]
  refine m_call (ltoLikedS_ok u ks hkl _ (by first | exact h'.ext hx16 | exact h'.ext (dr hx16))) ?_
  rintro y6 w66 hx66 hk6
  have hx66 : Ext w6 w66 := by first | exact hx66 | exact ud hx66 | exact ud (ud hx66)
  have hx16 := hx16.trans hx66
  simp only [↓vsd, vsn, gW, qd, qv, ev, pick, argE, zipE, ne_eq, eq_self, forall_const, implies_true, if_true, if_false, reduceIte, reduceCtorEq, Nat.reduceEqDiff, Nat.reduceAdd, Nat.reduceLT, ↓us_lFnExactScoreLeads, r_lFnExactScoreLeads]
  refine m_call (sScoreLeads_ok nm st x5 y6 cs b s t ks hnm hs hcl hb ht hkp hkl _ ((ho5.ext hx6).ext hx66).sq hk6.sq) ?_
  rintro _ w7 hx7 ⟨y7, rfl, ho7⟩
  have hx7 : Ext w66 w7 := by first | exact hx7 | exact ud hx7 | exact ud (ud hx7)
  have hx57 := ((hx5.trans hx6).trans hx66).trans hx7
  have hx17 := hx14.trans hx57
  have h17 := h14.ext hx57
  have h27 := h24.ext hx57
  simp only [↓vsd, vsn, gW, qd, qv, ev, pick, argE, zipE, ne_eq, eq_self, forall_const, implies_true, if_true, if_false, reduceIte, reduceCtorEq, Nat.reduceEqDiff, Nat.reduceAdd, Nat.reduceLT, ↓us_lFnExactScoreLeads, r_lFnExactScoreLeads, h17.facts, h27.facts, fMg, fQg]
  refine m_call (ltoMethod_ok nm st v cs hl _ (by first | exact h.ext hx17 | exact h.ext (dr hx17))) ?_
  rintro _ w8 hx8 ⟨x8, rfl, ho8⟩
  have hx8 : Ext w7 w8 := by first | exact hx8 | exact ud hx8 | exact ud (ud hx8)
  simp only [↓vsd, vsn, gW, qd, qv, ev, pick, argE, zipE, ne_eq, eq_self, forall_const, implies_true, if_true, if_false, reduceIte, reduceCtorEq, Nat.reduceEqDiff, Nat.reduceAdd, Nat.reduceLT, ↓us_lFnExactScoreLeads, r_lFnExactScoreLeads]
  have h18 := h17.ext hx8
  have h28 := h27.ext hx8
  have hx18 := hx17.trans hx8
  refine m_al ?_
  rintro b9 w9 hb9 hblk9 hx9 hs9
  have h19 := h18.ext hx9
  have h29 := h28.ext hx9
  simp only [↓vsd, vsn, gW, qd, qv, ev, pick, argE, zipE, ne_eq, eq_self, forall_const, implies_true, if_true, if_false, reduceIte, reduceCtorEq, Nat.reduceEqDiff, Nat.reduceAdd, Nat.reduceLT, ↓us_lFnExactScoreLeads, r_lFnExactScoreLeads, h19.facts, h29.facts, fMg, fQg]
  refine m_st hblk9 rfl (Nat.le_refl 3) (fM_one nm st x8 ho8.sq.one') ?_
  rintro w10 hblk10 hu10
  have hb10 : Blk w10 b9 (fM nm st x8) 41 := hblk10
  have hx19 := hx18.trans hx9
  have hx110 : Ext w w10 := hu10.below hx19 (by have := hx18.size; omega)
  have ho10 := (ho8.ext hx9).upd hu10 (ho8.away (by omega))
  have h110 := hu10.blk h19 (by have := h18.lt; omega)
  have h210 := hu10.blk h29 (by have := h28.lt; omega)
  have hw10 := ((ho7.ext hx8).ext hx9).upd hu10 ((ho7.ext hx8).away (by omega))
  simp only [↓vsd, vsn, gW, qd, qv, ev, pick, argE, zipE, ne_eq, eq_self, forall_const, implies_true, if_true, if_false, reduceIte, reduceCtorEq, Nat.reduceEqDiff, Nat.reduceAdd, Nat.reduceLT, ↓us_lFnExactScoreLeads, r_lFnExactScoreLeads, h110.facts, h210.facts, hb10.facts, fMg, fQg]
  refine m_call (ltoLikedS_ok u ks hkl _ (by first | exact h'.ext hx110 | exact h'.ext (dr hx110))) ?_
  rintro y10 w11 hx11 hk11
  have hx11 : Ext w10 w11 := by first | exact hx11 | exact ud hx11 | exact ud (ud hx11)
  have h111 := h110.ext hx11
  have h211 := h210.ext hx11
  have hb11 := hb10.ext hx11
  have hx111 := hx110.trans hx11
  simp only [↓vsd, vsn, gW, qd, qv, ev, pick, argE, zipE, ne_eq, eq_self, forall_const, implies_true, if_true, if_false, reduceIte, reduceCtorEq, Nat.reduceEqDiff, Nat.reduceAdd, Nat.reduceLT, ↓us_lFnExactScoreLeads, r_lFnExactScoreLeads, h111.facts, h211.facts, hb11.facts, fMg, fQg]
  refine m_call (ltoCalls_ok b s _) ?_
  rintro _ w12 hxL rfl
  have hxL : Ext w11 w12 := by first | exact hxL | exact ud hxL | exact ud (ud hxL)
  have h112 := h111.ext hxL
  have h212 := h211.ext hxL
  have hb12 := hb11.ext hxL
  have hx112 := hx111.trans hxL
  have ho12 := (ho10.ext hx11).ext hxL
  have hw12 := (hw10.ext hx11).ext hxL
  have hk12 := hk11.ext hxL
  simp only [↓vsd, vsn, gW, qd, qv, ev, pick, argE, zipE, ne_eq, eq_self, forall_const, implies_true, if_true, if_false, reduceIte, reduceCtorEq, Nat.reduceEqDiff, Nat.reduceAdd, Nat.reduceLT, ↓us_lFnExactScoreLeads, r_lFnExactScoreLeads, h112.facts, h212.facts, hb12.facts, fMg, fQg]
  have hs7 := hx7.size
  have hs8 := hx8.size
  have hs9 := hx9.size
  have hs10 := hu10.size
  have hs11 := hx11.size
  have hs12 := hxL.size
  have hs17 := hx17.size
  have hx8far : ∀ c, x8.ownBlock = some c → w7.heap.size ≤ c ∧ c < w8.heap.size := fun c hc => ⟨(ho8.bound c hc).1, ho8.lt c hc⟩
  have hx3far : ∀ c, y10.ownBlock = some c → w10.heap.size ≤ c ∧ c < w11.heap.size := fun c hc => ⟨(hk11.bound c hc).1, hk11.lt c hc⟩
  have hy7far : ∀ c, y7.ownBlock = some c → c < w7.heap.size := fun c hc => ho7.lt c hc
  have hb1l := h17.lt
  have hb2l := h27.lt
  have hLl : (scV nm st cs b s t ks).length ≤ 1000 := by
    unfold scV
    split
    · rename_i hmv
      have := hmv.1.2.1
      rw [scoresL_len, headsP_len]; omega
    · simp
  refine m_call (iScoreLeads_ok nm st x8 y10 cs b s t ks hnm hs hcl hb ht hkp hkl _ ho12.sq hk12.sq) ?_
  rintro _ w13 hxn ⟨y13, rfl, hY⟩
  have hxn : Ext w12 w13 := by first | exact hxn | exact ud hxn | exact ud (ud hxn)
  have hY := hY.mono hs12
  have hy13 : ∀ c, y13.ownBlock = some c → w11.heap.size ≤ c := fun c hc => (hY.bound c hc).1
  have hA := h112.ext hxn
  have hB := h212.ext hxn
  have hC := hb12.ext hxn
  have hX := ho12.ext hxn
  have hK := hk12.ext hxn
  have hW := hw12.ext hxn
  have hE := hx112.trans hxn
  clear h112 h212 hb12 ho12 hk12 hw12 hx112
  generalize hmvb : decide (ScOk nm st cs b s t ks) = mb at *
  generalize hL : scV nm st cs b s t ks = L at *
  simp only [↓vsd, vsn, gW, qd, qv, ev, pick, argE, zipE, ne_eq, eq_self, forall_const, implies_true, if_true, if_false, reduceIte, reduceCtorEq, Nat.reduceEqDiff, Nat.reduceAdd, Nat.reduceLT, ↓us_lFnExactScoreLeads, r_lFnExactScoreLeads]
  refine m_call (leqIntS_ok y13 y7 L L _ hY.sq hW.sq (by omega)) ?_
  rintro _ w14 hxn rfl
  have hxn : Ext w13 w14 := by first | exact hxn | exact ud hxn | exact ud (ud hxn)
  have hA := hA.ext hxn
  have hB := hB.ext hxn
  have hC := hC.ext hxn
  have hX := hX.ext hxn
  have hK := hK.ext hxn
  have hW := hW.ext hxn
  have hY := hY.ext hxn
  have hE := hE.trans hxn
  simp only [↓vsd, vsn, gW, qd, qv, ev, pick, argE, zipE, ne_eq, eq_self, forall_const, implies_true, if_true, if_false, reduceIte, reduceCtorEq, Nat.reduceEqDiff, Nat.reduceAdd, Nat.reduceLT, ↓us_lFnExactScoreLeads, r_lFnExactScoreLeads, hA.facts, hB.facts, hC.facts, fMg, fQg]
  refine m_call (ltoMethod_ok nm st v cs hl _ (by first | exact h.ext hE | exact h.ext (dr hE))) ?_
  rintro _ w15 hxn ⟨x15, rfl, ho15⟩
  have hxn : Ext w14 w15 := by first | exact hxn | exact ud hxn | exact ud (ud hxn)
  have hA := hA.ext hxn
  have hB := hB.ext hxn
  have hC := hC.ext hxn
  have hX := hX.ext hxn
  have hK := hK.ext hxn
  have hW := hW.ext hxn
  have hY := hY.ext hxn
  have hE := hE.trans hxn
  simp only [↓vsd, vsn, gW, qd, qv, ev, pick, argE, zipE, ne_eq, eq_self, forall_const, implies_true, if_true, if_false, reduceIte, reduceCtorEq, Nat.reduceEqDiff, Nat.reduceAdd, Nat.reduceLT, ↓us_lFnExactScoreLeads, r_lFnExactScoreLeads, hA.facts, hB.facts, hC.facts, fMg, fQg]
  refine m_call (leqMethod_ok nm nm st st x8 x15 cs cs (by omega) _ hX.sq ho15.sq) ?_
  rintro _ w16 hxn rfl
  have hxn : Ext w15 w16 := by first | exact hxn | exact ud hxn | exact ud (ud hxn)
  have hA := hA.ext hxn
  have hB := hB.ext hxn
  have hC := hC.ext hxn
  have hX := hX.ext hxn
  have hK := hK.ext hxn
  have hW := hW.ext hxn
  have hY := hY.ext hxn
  have hE := hE.trans hxn
  simp only [↓vsd, vsn, gW, qd, qv, ev, pick, argE, zipE, ne_eq, eq_self, forall_const, implies_true, if_true, if_false, reduceIte, reduceCtorEq, Nat.reduceEqDiff, Nat.reduceAdd, Nat.reduceLT, ↓us_lFnExactScoreLeads, r_lFnExactScoreLeads, hA.facts, hB.facts, hC.facts, fMg, fQg]
  refine m_call (ltoLikedS_ok u ks hkl _ (by first | exact h'.ext hE | exact h'.ext (dr hE))) ?_
  rintro y17 w17 hxn hk17
  have hxn : Ext w16 w17 := by first | exact hxn | exact ud hxn | exact ud (ud hxn)
  have hA := hA.ext hxn
  have hB := hB.ext hxn
  have hC := hC.ext hxn
  have hX := hX.ext hxn
  have hK := hK.ext hxn
  have hW := hW.ext hxn
  have hY := hY.ext hxn
  have hE := hE.trans hxn
  simp only [↓vsd, vsn, gW, qd, qv, ev, pick, argE, zipE, ne_eq, eq_self, forall_const, implies_true, if_true, if_false, reduceIte, reduceCtorEq, Nat.reduceEqDiff, Nat.reduceAdd, Nat.reduceLT, ↓us_lFnExactScoreLeads, r_lFnExactScoreLeads, hA.facts, hB.facts, hC.facts, fMg, fQg]
  refine m_call (leqLikedS_ok y10 y17 ks ks _ hK.sq hk17.sq hkl) ?_
  rintro _ w18 hxn rfl
  have hxn : Ext w17 w18 := by first | exact hxn | exact ud hxn | exact ud (ud hxn)
  have hA := hA.ext hxn
  have hB := hB.ext hxn
  have hC := hC.ext hxn
  have hX := hX.ext hxn
  have hK := hK.ext hxn
  have hW := hW.ext hxn
  have hY := hY.ext hxn
  have hE := hE.trans hxn
  simp only [↓vsd, vsn, gW, qd, qv, ev, pick, argE, zipE, ne_eq, eq_self, forall_const, implies_true, if_true, if_false, reduceIte, reduceCtorEq, Nat.reduceEqDiff, Nat.reduceAdd, Nat.reduceLT, ↓us_lFnExactScoreLeads, r_lFnExactScoreLeads, hA.facts, hB.facts, hC.facts, fMg, fQg]
  refine m_callw (.inl rfl) (lmarkMethod_ok nm st x8 cs _ 1 (by omega) (by omega) _ hX) ?_
  rintro _ w19 ⟨rfl, hX', hg⟩
  have hE := (hX.mono (B' := w.heap.size) hs17).grown hE (Nat.le_refl _) hg
  have hA := hA.same (hg.block b1 hA.lt (fun e => by have := (hx8far b1 e.symm).1; omega))
  have hB := hB.same (hg.block b2 hB.lt (fun e => by have := (hx8far b2 e.symm).1; omega))
  have hK := hK.off hg (fun c hc => fun e => by have := (hx8far c hc).2; have := (hx3far c e).1; omega)
  have hW := hW.off hg (fun c hc => fun e => by have := (hx8far c hc).1; have := hy7far c e; omega)
  have hY := hY.off hg (fun c hc => fun e => by have := (hx8far c hc).2; have := hy13 c e; omega)
  clear hX hC hX' hg
  simp only [↓vsd, vsn, gW, qd, qv, ev, pick, argE, zipE, ne_eq, eq_self, forall_const, implies_true, if_true, if_false, reduceIte, reduceCtorEq, Nat.reduceEqDiff, Nat.reduceAdd, Nat.reduceLT, ↓us_lFnExactScoreLeads, r_lFnExactScoreLeads]
  refine m_callw (.inl rfl) (lmarkLikedS_ok y10 ks _ (1 + cs.length) (by omega) (by omega) _ hK) ?_
  rintro _ w20 ⟨rfl, hK', hg⟩
  have hE := (hK.mono (B' := w.heap.size) (by omega)).grown hE (Nat.le_refl _) hg
  have hA := hA.same (hg.block b1 hA.lt (fun e => by have := (hx3far b1 e.symm).1; omega))
  have hB := hB.same (hg.block b2 hB.lt (fun e => by have := (hx3far b2 e.symm).1; omega))
  have hW := hW.off hg (fun c hc => fun e => by have := (hx3far c hc).1; have := hy7far c e; omega)
  have hY := hY.off hg (fun c hc => fun e => by have := (hx3far c hc).2; have := hy13 c e; omega)
  clear hK hK' hg
  simp only [↓vsd, vsn, gW, qd, qv, ev, pick, argE, zipE, ne_eq, eq_self, forall_const, implies_true, if_true, if_false, reduceIte, reduceCtorEq, Nat.reduceEqDiff, Nat.reduceAdd, Nat.reduceLT, ↓us_lFnExactScoreLeads, r_lFnExactScoreLeads]
  refine ⟨fun _ => ?_, fun hneg => by omega⟩
  refine m_call (leqIntS_ok y13 y7 L L _ hY.sq hW.sq (by omega)) ?_
  rintro _ w21 hxn rfl
  have hA := hA.ext hxn
  have hB := hB.ext hxn
  have hW := hW.ext hxn
  have hY := hY.ext hxn
  have hE := hE.trans hxn
  simp only [↓vsd, vsn, gW, qd, qv, ev, pick, argE, zipE, ne_eq, eq_self, forall_const, implies_true, if_true, if_false, reduceIte, reduceCtorEq, Nat.reduceEqDiff, Nat.reduceAdd, Nat.reduceLT, ↓us_lFnExactScoreLeads, r_lFnExactScoreLeads]
  refine ⟨fun hneg => by omega, fun _ => ?_⟩
  refine m_callw (.inl rfl) (lmarkIntS_ok y13 L _ 1 (by omega) (by omega) _ hY) ?_
  rintro _ w22 ⟨rfl, hYm, hg⟩
  have hE := (hY.mono (B' := w.heap.size) (by omega)).grown hE (Nat.le_refl _) hg
  have hA := hA.same (hg.block b1 hA.lt (fun e => by have := hy13 b1 e.symm; omega))
  have hB := hB.same (hg.block b2 hB.lt (fun e => by have := hy13 b2 e.symm; omega))
  have hW := hW.off hg (fun c hc => fun e => by have := hy13 c hc; have := hy7far c e; omega)
  clear hY hg
  simp only [↓vsd, vsn, gW, qd, qv, ev, pick, argE, zipE, ne_eq, eq_self, forall_const, implies_true, if_true, if_false, reduceIte, reduceCtorEq, Nat.reduceEqDiff, Nat.reduceAdd, Nat.reduceLT, ↓us_lFnExactScoreLeads, r_lFnExactScoreLeads]
  refine m_call (lheldIntS_ok y13 L.length 1 (by omega) (by omega) _ hYm.sq) ?_
  rintro _ w23 hxn rfl
  have hA := hA.ext hxn
  have hB := hB.ext hxn
  have hW := hW.ext hxn
  have hYm := hYm.ext hxn
  have hE := hE.trans hxn
  simp only [↓vsd, vsn, gW, qd, qv, ev, pick, argE, zipE, ne_eq, eq_self, forall_const, implies_true, if_true, if_false, reduceIte, reduceCtorEq, Nat.reduceEqDiff, Nat.reduceAdd, Nat.reduceLT, ↓us_lFnExactScoreLeads, r_lFnExactScoreLeads, hA.facts, hB.facts, fMg, fQg]
  refine ⟨fun hneg => by omega, fun _ => ?_⟩
  refine m_call (ltoMethod_ok nm st v cs hl _ (by first | exact h.ext hE | exact h.ext (dr hE))) ?_
  rintro _ w24 hxn ⟨x24, rfl, ho24⟩
  have hxn : Ext w23 w24 := by first | exact hxn | exact ud hxn | exact ud (ud hxn)
  have hB := hB.ext hxn
  have hW := hW.ext hxn
  have hYm := hYm.ext hxn
  have hE := hE.trans hxn
  simp only [↓vsd, vsn, gW, qd, qv, ev, pick, argE, zipE, ne_eq, eq_self, forall_const, implies_true, if_true, if_false, reduceIte, reduceCtorEq, Nat.reduceEqDiff, Nat.reduceAdd, Nat.reduceLT, ↓us_lFnExactScoreLeads, r_lFnExactScoreLeads, hB.facts, fQg]
  refine m_call (ltoCalls_ok b s _) ?_
  rintro _ w25 hxn rfl
  have hxn : Ext w24 w25 := by first | exact hxn | exact ud hxn | exact ud (ud hxn)
  have ho24 := ho24.ext hxn
  have hW := hW.ext hxn
  have hYm := hYm.ext hxn
  have hE := hE.trans hxn
  simp only [↓vsd, vsn, gW, qd, qv, ev, pick, argE, zipE, ne_eq, eq_self, forall_const, implies_true, if_true, if_false, reduceIte, reduceCtorEq, Nat.reduceEqDiff, Nat.reduceAdd, Nat.reduceLT, ↓us_lFnExactScoreLeads, r_lFnExactScoreLeads]
  refine m_call (ltoLikedS_ok u ks hkl _ (by first | exact h'.ext hE | exact h'.ext (dr hE))) ?_
  rintro y26 w26 hxn hk26
  have hxn : Ext w25 w26 := by first | exact hxn | exact ud hxn | exact ud (ud hxn)
  have ho24 := ho24.ext hxn
  have hW := hW.ext hxn
  have hYm := hYm.ext hxn
  have hE := hE.trans hxn
  simp only [↓vsd, vsn, gW, qd, qv, ev, pick, argE, zipE, ne_eq, eq_self, forall_const, implies_true, if_true, if_false, reduceIte, reduceCtorEq, Nat.reduceEqDiff, Nat.reduceAdd, Nat.reduceLT, ↓us_lFnExactScoreLeads, r_lFnExactScoreLeads]
  refine m_call (iScoreLeads_ok nm st x24 y26 cs b s t ks hnm hs hcl hb ht hkp hkl _ ho24.sq hk26.sq) ?_
  rintro _ w27 hxn ⟨y27, rfl, hY⟩
  have hxn : Ext w26 w27 := by first | exact hxn | exact ud hxn | exact ud (ud hxn)
  rw [hmvb]
  rw [hL] at hY
  have hW := hW.ext hxn
  have hYm := hYm.ext hxn
  have hE := hE.trans hxn
  simp only [↓vsd, vsn, gW, qd, qv, ev, pick, argE, zipE, ne_eq, eq_self, forall_const, implies_true, if_true, if_false, reduceIte, reduceCtorEq, Nat.reduceEqDiff, Nat.reduceAdd, Nat.reduceLT, ↓us_lFnExactScoreLeads, r_lFnExactScoreLeads]
  refine m_call (leqIntS_ok y27 y7 L L _ hY.sq hW.sq (by omega)) ?_
  rintro _ w28 hxn rfl
  have hYm := hYm.ext hxn
  have hE := hE.trans hxn
  simp only [↓vsd, vsn, gW, qd, qv, ev, pick, argE, zipE, ne_eq, eq_self, forall_const, implies_true, if_true, if_false, reduceIte, reduceCtorEq, Nat.reduceEqDiff, Nat.reduceAdd, Nat.reduceLT, ↓us_lFnExactScoreLeads, r_lFnExactScoreLeads]
  refine m_call (lheldIntS_ok y13 L.length 1 (by omega) (by omega) _ hYm.sq) ?_
  rintro _ w29 hxn rfl
  simp only [↓vsd, vsn, gW, qd, qv, ev, pick, argE, zipE, ne_eq, eq_self, forall_const, implies_true, if_true, if_false, reduceIte, reduceCtorEq, Nat.reduceEqDiff, Nat.reduceAdd, Nat.reduceLT, ↓us_lFnExactScoreLeads, r_lFnExactScoreLeads]
  exact ⟨fun h => by omega, fun _ => hE.trans hxn⟩
end Go.Proofs.Ytpnopboffalfnaa
