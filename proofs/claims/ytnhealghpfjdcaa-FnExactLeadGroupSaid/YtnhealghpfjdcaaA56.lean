/-
  The calls of the laws FnExactSetRow and FnExactLeadGroup.
  Conditions: none.
-/
import Derived.Test.YtnhealghpfjdcaaA55
set_option linter.unusedSimpArgs false
set_option linter.unusedVariables false
set_option linter.defProp false
namespace Go.Proofs.Ytnhealghpfjdcaa
open Go Go.RowKit
section
variable (P : Program) (k : KT) (e : Env) (w : World)
abbrev b3_1 : X := (.cond (.t 15) (.seq (.reg [4] (.c (.q 4 [] (.mv (.c (.bool true)))) .nil)) .ret) .skip)
def t3_1 := b3_1
theorem u3_1 : vcK P t3_1 k e w = vcK P b3_1 k e w := rfl
abbrev b3_2 : X := (.cond (.t 20) (.seq (.reg [4] (.c (.q 4 [] (.mv (.c (.bool true)))) .nil)) .ret) .skip)
def t3_2 := b3_2
theorem u3_2 : vcK P t3_2 k e w = vcK P b3_2 k e w := rfl
abbrev b3_3 : X := (.cond (.t 45) (.seq (.reg [4] (.c (.q 4 [] (.mv (.c (.bool false)))) .nil)) .ret) .skip)
def t3_3 := b3_3
theorem u3_3 : vcK P t3_3 k e w = vcK P b3_3 k e w := rfl
abbrev b3_4 : X := (.cond (.t 50) (.seq (.reg [4] (.c (.q 4 [] (.mv (.c (.bool false)))) .nil)) .ret) .skip)
def t3_4 := b3_4
theorem u3_4 : vcK P t3_4 k e w = vcK P b3_4 k e w := rfl
abbrev b3_5 : X := (.seq (.reg [4] (.c (.q 4 [] (.mv (.c (.bool true)))) .nil)) .ret)
def t3_5 := b3_5
theorem u3_5 : vcK P t3_5 k e w = vcK P b3_5 k e w := rfl
abbrev b3_6 : X := (.seq (.seq (.drw [50] (.c (.q 46 [] (.lda 3 (.t 8))) (.c (.q 47 [] (.lda 3 (.t 2))) (.c (.e (some 48) [] (.call false 15 [(.t 47)])) (.c (.e (some 49) [] (.call false 18 [(.t 46), (.t 48)])) (.c (.q 50 [] (.not (.t 49))) .nil)))))) t3_4) t3_5)
def t3_6 := b3_6
theorem u3_6 : vcK P t3_6 k e w = vcK P b3_6 k e w := rfl
abbrev b3_7 : X := (.seq (.seq (.reg [2, 8, 45] (.c (.q 38 [] (.mv (.t 9))) (.c (.q 39 [] (.mv (.t 6))) (.c (.q 40 [] (.bin .neq (.t 38) (.t 39))) (.c (.q 41 [] (.mv (.t 40))) (.c (.q 42 [(41, false)] (.mv (.t 10))) (.c (.q 43 [(41, false)] (.mv (.t 7))) (.c (.q 44 [(41, false)] (.beq true (.t 42) (.t 43))) (.c (.q 45 [] (.pick (.t 41) (.c (.bool true)) (.t 44))) .nil))))))))) t3_3) t3_6)
def t3_7 := b3_7
theorem u3_7 : vcK P t3_7 k e w = vcK P b3_7 k e w := rfl
abbrev b3_8 : X := (.seq (.drw [2, 6, 7, 8, 9, 10] (.c (.q 32 [] (.lda 3 (.t 8))) (.c (.q 33 [] (.lda 2 (.t 3))) (.c (.e (some 34) [] (.call false 16 [(.t 33)])) (.c (.e (some 35) [] (.call false 17 [(.t 32), (.t 34)])) (.c (.q 31 [] (.mv (.t 35))) (.c (.q 36 [] (.ext 0 (.t 31))) (.c (.q 37 [] (.ext 1 (.t 31))) (.c (.q 9 [] (.mv (.t 36))) (.c (.q 10 [] (.mv (.t 37))) .nil)))))))))) t3_7)
def t3_8 := b3_8
theorem u3_8 : vcK P t3_8 k e w = vcK P b3_8 k e w := rfl
abbrev b3_9 : X := (.seq (.reg [2, 3, 6, 7, 8] (.c (.q 29 [] (.lda 3 (.t 2))) (.c (.e (some 30) [] (.call false 15 [(.t 29)])) (.c (.e (some 8) [] (.al 31 [(S []), (.int .i64 0), (.slice none 0 0)])) (.c (.e none [] (.st 3 (.t 8) (.t 30))) .nil))))) t3_8)
def t3_9 := b3_9
theorem u3_9 : vcK P t3_9 k e w = vcK P b3_9 k e w := rfl
abbrev b3_10 : X := (.seq (.drw [2, 3, 6, 7] (.c (.q 22 [] (.lda 3 (.t 2))) (.c (.q 24 [] (.lda 2 (.t 3))) (.c (.e (some 23) [] (.call false 15 [(.t 22)])) (.c (.e (some 25) [] (.call false 16 [(.t 24)])) (.c (.e (some 26) [] (.call false 14 [(.t 23), (.t 25)])) (.c (.q 21 [] (.mv (.t 26))) (.c (.q 27 [] (.ext 0 (.t 21))) (.c (.q 28 [] (.ext 1 (.t 21))) (.c (.q 6 [] (.mv (.t 27))) (.c (.q 7 [] (.mv (.t 28))) .nil))))))))))) t3_9)
def t3_10 := b3_10
theorem u3_10 : vcK P t3_10 k e w = vcK P b3_10 k e w := rfl
abbrev b3_11 : X := (.seq (.seq (.reg [2, 3, 20] (.c (.q 19 [] (.mv (.t 5))) (.c (.q 20 [] (.bin .lss (.t 19) (.c (.int .i64 0)))) .nil))) t3_2) t3_10)
def t3_11 := b3_11
theorem u3_11 : vcK P t3_11 k e w = vcK P b3_11 k e w := rfl
abbrev b3_12 : X := (.seq (.reg [2, 3, 5] (.c (.q 16 [] (.lda 2 (.t 3))) (.c (.q 17 [] (.mv (.t 5))) (.c (.e (some 18) [] (.call false 13 [(.t 16), (.t 17)])) (.c (.q 5 [] (.mv (.t 18))) .nil))))) t3_11)
def t3_12 := b3_12
theorem u3_12 : vcK P t3_12 k e w = vcK P b3_12 k e w := rfl
abbrev b3_13 : X := (.seq (.seq (.reg [2, 3, 5, 15] (.c (.q 14 [] (.mv (.t 5))) (.c (.q 15 [] (.bin .lss (.t 14) (.c (.int .i64 0)))) .nil))) t3_1) t3_12)
def t3_13 := b3_13
theorem u3_13 : vcK P t3_13 k e w = vcK P b3_13 k e w := rfl
abbrev b3_14 : X := (.seq (.reg [2, 3, 5] (.c (.q 11 [] (.lda 3 (.t 2))) (.c (.q 12 [] (.mv (.t 5))) (.c (.e (some 13) [] (.call false 12 [(.t 11), (.t 12)])) (.c (.q 5 [] (.mv (.t 13))) .nil))))) t3_13)
def t3_14 := b3_14
theorem u3_14 : vcK P t3_14 k e w = vcK P b3_14 k e w := rfl
abbrev b3_15 : X := (.seq (.reg [2, 3, 5] (.c (.q 5 [] (.mv (.c (.int .i64 1048576)))) .nil)) t3_14)
def t3_15 := b3_15
theorem u3_15 : vcK P t3_15 k e w = vcK P b3_15 k e w := rfl
abbrev b3_0 : X := (.seq (.reg [2, 3] (.c (.e (some 2) [] (.box 24 (.t 0))) (.c (.e (some 3) [] (.box 26 (.t 1))) (.c (.q 4 [] (.mv (.c (.bool false)))) .nil)))) t3_15)
def x_lFnExactSetRow := b3_0
theorem u3_0 : vcK P x_lFnExactSetRow k e w = vcK P b3_0 k e w := rfl
def r_lFnExactSetRow : List XO := [(.mv (.t 4))]
theorem c_lFnExactSetRow : convF Try.prog [89, 116, 117, 121, 143, 161, 162, 163, 166, 168, 234] Try.f3 [([2, 3], []), ([2, 3, 5], []), ([2, 3, 5], []), ([2, 3, 5, 15], []), ([4], []), ([2, 3, 5], []), ([2, 3, 20], []), ([4], []), ([2, 3, 6, 7], []), ([2, 3, 6, 7, 8], []), ([2, 6, 7, 8, 9, 10], []), ([2, 8, 45], []), ([4], []), ([50], []), ([4], []), ([4], [])] = some (x_lFnExactSetRow, r_lFnExactSetRow) := by kernel_rfl
def us_lFnExactSetRow := aI @u3_0 (aI @u3_1 (aI @u3_2 (aI @u3_3 (aI @u3_4 (aI @u3_5 (aI @u3_6 (aI @u3_7 (aI @u3_8 (aI @u3_9 (aI @u3_10 (aI @u3_11 (aI @u3_12 (aI @u3_13 (aI @u3_14 @u3_15))))))))))))))
abbrev b4_1 : X := (.cond (.t 20) (.seq (.reg [4] (.c (.q 4 [] (.mv (.c (.bool true)))) .nil)) .ret) .skip)
def t4_1 := b4_1
theorem u4_1 : vcK P t4_1 k e w = vcK P b4_1 k e w := rfl
abbrev b4_2 : X := (.cond (.t 25) (.seq (.reg [4] (.c (.q 4 [] (.mv (.c (.bool true)))) .nil)) .ret) .skip)
def t4_2 := b4_2
theorem u4_2 : vcK P t4_2 k e w = vcK P b4_2 k e w := rfl
abbrev b4_3 : X := (.cond (.t 51) (.seq (.reg [4] (.c (.q 4 [] (.mv (.c (.bool false)))) .nil)) .ret) .skip)
def t4_3 := b4_3
theorem u4_3 : vcK P t4_3 k e w = vcK P b4_3 k e w := rfl
abbrev b4_4 : X := (.cond (.t 56) (.seq (.reg [4] (.c (.q 4 [] (.mv (.c (.bool false)))) .nil)) .ret) .skip)
def t4_4 := b4_4
theorem u4_4 : vcK P t4_4 k e w = vcK P b4_4 k e w := rfl
abbrev b4_5 : X := (.cond (.t 72) (.seq (.reg [4] (.c (.q 4 [] (.mv (.c (.bool false)))) .nil)) .ret) .skip)
def t4_5 := b4_5
theorem u4_5 : vcK P t4_5 k e w = vcK P b4_5 k e w := rfl
abbrev b4_6 : X := (.cond (.t 80) (.seq (.reg [4] (.c (.q 4 [] (.mv (.c (.bool false)))) .nil)) .ret) .skip)
def t4_6 := b4_6
theorem u4_6 : vcK P t4_6 k e w = vcK P b4_6 k e w := rfl
abbrev b4_7 : X := (.cond (.t 83) (.seq (.reg [4] (.c (.q 4 [] (.mv (.c (.bool false)))) .nil)) .ret) .skip)
def t4_7 := b4_7
theorem u4_7 : vcK P t4_7 k e w = vcK P b4_7 k e w := rfl
abbrev b4_8 : X := (.cond (.t 100) (.seq (.reg [4] (.c (.q 4 [] (.mv (.c (.bool false)))) .nil)) .ret) .skip)
def t4_8 := b4_8
theorem u4_8 : vcK P t4_8 k e w = vcK P b4_8 k e w := rfl
abbrev b4_9 : X := (.cond (.t 105) (.seq (.reg [4] (.c (.q 4 [] (.mv (.c (.bool false)))) .nil)) .ret) .skip)
def t4_9 := b4_9
theorem u4_9 : vcK P t4_9 k e w = vcK P b4_9 k e w := rfl
abbrev b4_10 : X := (.cond (.t 108) (.seq (.reg [4] (.c (.q 4 [] (.mv (.c (.bool false)))) .nil)) .ret) .skip)
def t4_10 := b4_10
theorem u4_10 : vcK P t4_10 k e w = vcK P b4_10 k e w := rfl
abbrev b4_11 : X := (.seq (.reg [4] (.c (.q 4 [] (.mv (.c (.bool true)))) .nil)) .ret)
def t4_11 := b4_11
theorem u4_11 : vcK P t4_11 k e w = vcK P b4_11 k e w := rfl
abbrev b4_12 : X := (.seq (.seq (.reg [108] (.c (.q 106 [] (.mv (.t 13))) (.c (.q 107 [] (.mv (.t 12))) (.c (.q 108 [] (.bin .neq (.t 106) (.t 107))) .nil)))) t4_10) t4_11)
def t4_12 := b4_12
theorem u4_12 : vcK P t4_12 k e w = vcK P b4_12 k e w := rfl
abbrev b4_13 : X := (.seq (.seq (.reg [12, 13, 105] (.c (.q 104 [] (.mv (.t 13))) (.c (.q 105 [] (.bin .lss (.t 104) (.c (.int .i64 0)))) .nil))) t4_9) t4_12)
def t4_13 := b4_13
theorem u4_13 : vcK P t4_13 k e w = vcK P b4_13 k e w := rfl
abbrev b4_14 : X := (.seq (.reg [12, 13] (.c (.q 101 [] (.mv (.t 9))) (.c (.q 102 [] (.mv (.t 13))) (.c (.e (some 103) [] (.call false 24 [(.t 101), (.t 102)])) (.c (.q 13 [] (.mv (.t 103))) .nil))))) t4_13)
def t4_14 := b4_14
theorem u4_14 : vcK P t4_14 k e w = vcK P b4_14 k e w := rfl
abbrev b4_15 : X := (.seq (.reg [9, 12, 13] (.c (.q 13 [] (.mv (.c (.int .i64 1)))) .nil)) t4_14)
def t4_15 := b4_15
theorem u4_15 : vcK P t4_15 k e w = vcK P b4_15 k e w := rfl
abbrev b4_16 : X := (.seq (.seq (.reg [9, 12, 100] (.c (.q 92 [] (.mv (.t 14))) (.c (.q 93 [] (.mv (.t 6))) (.c (.e (some 94) [] (.call false 21 [(.t 92), (.t 93)])) (.c (.q 95 [] (.not (.t 94))) (.c (.q 96 [] (.mv (.t 95))) (.c (.q 97 [(96, false)] (.mv (.t 15))) (.c (.q 98 [(96, false)] (.mv (.t 7))) (.c (.q 99 [(96, false)] (.beq true (.t 97) (.t 98))) (.c (.q 100 [] (.pick (.t 96) (.c (.bool true)) (.t 99))) .nil)))))))))) t4_8) t4_15)
def t4_16 := b4_16
theorem u4_16 : vcK P t4_16 k e w = vcK P b4_16 k e w := rfl
abbrev b4_17 : X := (.seq (.drw [6, 7, 9, 12, 14, 15] (.c (.q 85 [] (.lda 3 (.t 2))) (.c (.q 87 [] (.lda 2 (.t 3))) (.c (.e (some 86) [] (.call false 15 [(.t 85)])) (.c (.e (some 88) [] (.call false 16 [(.t 87)])) (.c (.e (some 89) [] (.call false 20 [(.t 86), (.t 88)])) (.c (.q 84 [] (.mv (.t 89))) (.c (.q 90 [] (.ext 0 (.t 84))) (.c (.q 91 [] (.ext 1 (.t 84))) (.c (.q 14 [] (.mv (.t 90))) (.c (.q 15 [] (.mv (.t 91))) .nil))))))))))) t4_16)
def t4_17 := b4_17
theorem u4_17 : vcK P t4_17 k e w = vcK P b4_17 k e w := rfl
abbrev b4_18 : X := (.seq (.seq (.reg [2, 3, 6, 7, 9, 12, 83] (.c (.q 81 [] (.mv (.t 13))) (.c (.q 82 [] (.mv (.t 12))) (.c (.q 83 [] (.bin .neq (.t 81) (.t 82))) .nil)))) t4_7) t4_17)
def t4_18 := b4_18
theorem u4_18 : vcK P t4_18 k e w = vcK P b4_18 k e w := rfl
abbrev b4_19 : X := (.seq (.seq (.reg [2, 3, 6, 7, 9, 12, 13, 80] (.c (.q 79 [] (.mv (.t 13))) (.c (.q 80 [] (.bin .lss (.t 79) (.c (.int .i64 0)))) .nil))) t4_6) t4_18)
def t4_19 := b4_19
theorem u4_19 : vcK P t4_19 k e w = vcK P b4_19 k e w := rfl
abbrev b4_20 : X := (.seq (.reg [2, 3, 6, 7, 9, 12, 13] (.c (.q 76 [] (.mv (.t 9))) (.c (.q 77 [] (.mv (.t 13))) (.c (.e (some 78) [] (.call false 24 [(.t 76), (.t 77)])) (.c (.q 13 [] (.mv (.t 78))) .nil))))) t4_19)
def t4_20 := b4_20
theorem u4_20 : vcK P t4_20 k e w = vcK P b4_20 k e w := rfl
abbrev b4_21 : X := (.seq (.reg [2, 3, 6, 7, 9, 12, 13] (.c (.q 13 [] (.mv (.c (.int .i64 1)))) .nil)) t4_20)
def t4_21 := b4_21
theorem u4_21 : vcK P t4_21 k e w = vcK P b4_21 k e w := rfl
abbrev b4_22 : X := (.seq (.reg [2, 3, 6, 7, 9, 12] (.c (.q 73 [] (.mv (.t 9))) (.c (.q 74 [] (.mv (.t 12))) (.c (.e (some 75) [] (.call false 23 [(.t 73), (.t 74)])) (.c (.q 12 [] (.mv (.t 75))) .nil))))) t4_21)
def t4_22 := b4_22
theorem u4_22 : vcK P t4_22 k e w = vcK P b4_22 k e w := rfl
abbrev b4_23 : X := (.seq (.reg [2, 3, 6, 7, 9, 12] (.c (.q 12 [] (.mv (.c (.int .i64 1)))) .nil)) t4_22)
def t4_23 := b4_23
theorem u4_23 : vcK P t4_23 k e w = vcK P b4_23 k e w := rfl
abbrev b4_24 : X := (.seq (.seq (.reg [2, 3, 6, 7, 9, 72] (.c (.q 60 [] (.mv (.t 11))) (.c (.q 61 [] (.bin .lss (.t 60) (.c (.int .i64 0)))) (.c (.q 62 [] (.mv (.t 61))) (.c (.q 63 [(62, false)] (.mv (.t 9))) (.c (.q 64 [(62, false)] (.mv (.t 6))) (.c (.e (some 65) [(62, false)] (.call false 21 [(.t 63), (.t 64)])) (.c (.q 66 [(62, false)] (.not (.t 65))) (.c (.q 67 [] (.pick (.t 62) (.c (.bool true)) (.t 66))) (.c (.q 68 [] (.mv (.t 67))) (.c (.q 69 [(68, false)] (.mv (.t 10))) (.c (.q 70 [(68, false)] (.mv (.t 7))) (.c (.q 71 [(68, false)] (.beq true (.t 69) (.t 70))) (.c (.q 72 [] (.pick (.t 68) (.c (.bool true)) (.t 71))) .nil)))))))))))))) t4_5) t4_23)
def t4_24 := b4_24
theorem u4_24 : vcK P t4_24 k e w = vcK P b4_24 k e w := rfl
abbrev b4_25 : X := (.seq (.reg [2, 3, 6, 7, 9, 10, 11] (.c (.q 57 [] (.lda 3 (.t 8))) (.c (.q 58 [] (.mv (.t 11))) (.c (.e (some 59) [] (.call false 22 [(.t 57), (.t 58)])) (.c (.q 11 [] (.mv (.t 59))) .nil))))) t4_24)
def t4_25 := b4_25
theorem u4_25 : vcK P t4_25 k e w = vcK P b4_25 k e w := rfl
abbrev b4_26 : X := (.seq (.reg [2, 3, 6, 7, 8, 9, 10, 11] (.c (.q 11 [] (.mv (.c (.int .i64 1)))) .nil)) t4_25)
def t4_26 := b4_26
theorem u4_26 : vcK P t4_26 k e w = vcK P b4_26 k e w := rfl
abbrev b4_27 : X := (.seq (.seq (.drw [2, 3, 6, 7, 8, 9, 10, 56] (.c (.q 52 [] (.lda 3 (.t 8))) (.c (.q 53 [] (.lda 3 (.t 2))) (.c (.e (some 54) [] (.call false 15 [(.t 53)])) (.c (.e (some 55) [] (.call false 18 [(.t 52), (.t 54)])) (.c (.q 56 [] (.not (.t 55))) .nil)))))) t4_4) t4_26)
def t4_27 := b4_27
theorem u4_27 : vcK P t4_27 k e w = vcK P b4_27 k e w := rfl
abbrev b4_28 : X := (.seq (.seq (.reg [2, 3, 6, 7, 8, 9, 10, 51] (.c (.q 43 [] (.mv (.t 9))) (.c (.q 44 [] (.mv (.t 6))) (.c (.e (some 45) [] (.call false 21 [(.t 43), (.t 44)])) (.c (.q 46 [] (.not (.t 45))) (.c (.q 47 [] (.mv (.t 46))) (.c (.q 48 [(47, false)] (.mv (.t 10))) (.c (.q 49 [(47, false)] (.mv (.t 7))) (.c (.q 50 [(47, false)] (.beq true (.t 48) (.t 49))) (.c (.q 51 [] (.pick (.t 47) (.c (.bool true)) (.t 50))) .nil)))))))))) t4_3) t4_27)
def t4_28 := b4_28
theorem u4_28 : vcK P t4_28 k e w = vcK P b4_28 k e w := rfl
abbrev b4_29 : X := (.seq (.drw [2, 3, 6, 7, 8, 9, 10] (.c (.q 37 [] (.lda 3 (.t 8))) (.c (.q 38 [] (.lda 2 (.t 3))) (.c (.e (some 39) [] (.call false 16 [(.t 38)])) (.c (.e (some 40) [] (.call false 20 [(.t 37), (.t 39)])) (.c (.q 36 [] (.mv (.t 40))) (.c (.q 41 [] (.ext 0 (.t 36))) (.c (.q 42 [] (.ext 1 (.t 36))) (.c (.q 9 [] (.mv (.t 41))) (.c (.q 10 [] (.mv (.t 42))) .nil)))))))))) t4_28)
def t4_29 := b4_29
theorem u4_29 : vcK P t4_29 k e w = vcK P b4_29 k e w := rfl
abbrev b4_30 : X := (.seq (.reg [2, 3, 6, 7, 8] (.c (.q 34 [] (.lda 3 (.t 2))) (.c (.e (some 35) [] (.call false 15 [(.t 34)])) (.c (.e (some 8) [] (.al 31 [(S []), (.int .i64 0), (.slice none 0 0)])) (.c (.e none [] (.st 3 (.t 8) (.t 35))) .nil))))) t4_29)
def t4_30 := b4_30
theorem u4_30 : vcK P t4_30 k e w = vcK P b4_30 k e w := rfl
abbrev b4_31 : X := (.seq (.drw [2, 3, 6, 7] (.c (.q 27 [] (.lda 3 (.t 2))) (.c (.q 29 [] (.lda 2 (.t 3))) (.c (.e (some 28) [] (.call false 15 [(.t 27)])) (.c (.e (some 30) [] (.call false 16 [(.t 29)])) (.c (.e (some 31) [] (.call false 19 [(.t 28), (.t 30)])) (.c (.q 26 [] (.mv (.t 31))) (.c (.q 32 [] (.ext 0 (.t 26))) (.c (.q 33 [] (.ext 1 (.t 26))) (.c (.q 6 [] (.mv (.t 32))) (.c (.q 7 [] (.mv (.t 33))) .nil))))))))))) t4_30)
def t4_31 := b4_31
theorem u4_31 : vcK P t4_31 k e w = vcK P b4_31 k e w := rfl
abbrev b4_32 : X := (.seq (.seq (.reg [2, 3, 25] (.c (.q 24 [] (.mv (.t 5))) (.c (.q 25 [] (.bin .lss (.t 24) (.c (.int .i64 0)))) .nil))) t4_2) t4_31)
def t4_32 := b4_32
theorem u4_32 : vcK P t4_32 k e w = vcK P b4_32 k e w := rfl
abbrev b4_33 : X := (.seq (.reg [2, 3, 5] (.c (.q 21 [] (.lda 2 (.t 3))) (.c (.q 22 [] (.mv (.t 5))) (.c (.e (some 23) [] (.call false 13 [(.t 21), (.t 22)])) (.c (.q 5 [] (.mv (.t 23))) .nil))))) t4_32)
def t4_33 := b4_33
theorem u4_33 : vcK P t4_33 k e w = vcK P b4_33 k e w := rfl
abbrev b4_34 : X := (.seq (.seq (.reg [2, 3, 5, 20] (.c (.q 19 [] (.mv (.t 5))) (.c (.q 20 [] (.bin .lss (.t 19) (.c (.int .i64 0)))) .nil))) t4_1) t4_33)
def t4_34 := b4_34
theorem u4_34 : vcK P t4_34 k e w = vcK P b4_34 k e w := rfl
abbrev b4_35 : X := (.seq (.reg [2, 3, 5] (.c (.q 16 [] (.lda 3 (.t 2))) (.c (.q 17 [] (.mv (.t 5))) (.c (.e (some 18) [] (.call false 12 [(.t 16), (.t 17)])) (.c (.q 5 [] (.mv (.t 18))) .nil))))) t4_34)
def t4_35 := b4_35
theorem u4_35 : vcK P t4_35 k e w = vcK P b4_35 k e w := rfl
abbrev b4_36 : X := (.seq (.reg [2, 3, 5] (.c (.q 5 [] (.mv (.c (.int .i64 1048576)))) .nil)) t4_35)
def t4_36 := b4_36
theorem u4_36 : vcK P t4_36 k e w = vcK P b4_36 k e w := rfl
abbrev b4_0 : X := (.seq (.reg [2, 3] (.c (.e (some 2) [] (.box 24 (.t 0))) (.c (.e (some 3) [] (.box 26 (.t 1))) (.c (.q 4 [] (.mv (.c (.bool false)))) .nil)))) t4_36)
def x_lFnExactLeadGroup := b4_0
theorem u4_0 : vcK P x_lFnExactLeadGroup k e w = vcK P b4_0 k e w := rfl
def r_lFnExactLeadGroup : List XO := [(.mv (.t 4))]
theorem c_lFnExactLeadGroup : convF Try.prog [89, 116, 117, 121, 143, 161, 162, 163, 166, 168, 234] Try.f4 [([2, 3], []), ([2, 3, 5], []), ([2, 3, 5], []), ([2, 3, 5, 20], []), ([4], []), ([2, 3, 5], []), ([2, 3, 25], []), ([4], []), ([2, 3, 6, 7], []), ([2, 3, 6, 7, 8], []), ([2, 3, 6, 7, 8, 9, 10], []), ([2, 3, 6, 7, 8, 9, 10, 51], []), ([4], []), ([2, 3, 6, 7, 8, 9, 10, 56], []), ([4], []), ([2, 3, 6, 7, 8, 9, 10, 11], []), ([2, 3, 6, 7, 9, 10, 11], []), ([2, 3, 6, 7, 9, 72], []), ([4], []), ([2, 3, 6, 7, 9, 12], []), ([2, 3, 6, 7, 9, 12], []), ([2, 3, 6, 7, 9, 12, 13], []), ([2, 3, 6, 7, 9, 12, 13], []), ([2, 3, 6, 7, 9, 12, 13, 80], []), ([4], []), ([2, 3, 6, 7, 9, 12, 83], []), ([4], []), ([6, 7, 9, 12, 14, 15], []), ([9, 12, 100], []), ([4], []), ([9, 12, 13], []), ([12, 13], []), ([12, 13, 105], []), ([4], []), ([108], []), ([4], []), ([4], [])] = some (x_lFnExactLeadGroup, r_lFnExactLeadGroup) := by kernel_rfl
def us_lFnExactLeadGroup := aI @u4_0 (aI @u4_1 (aI @u4_2 (aI @u4_3 (aI @u4_4 (aI @u4_5 (aI @u4_6 (aI @u4_7 (aI @u4_8 (aI @u4_9 (aI @u4_10 (aI @u4_11 (aI @u4_12 (aI @u4_13 (aI @u4_14 (aI @u4_15 (aI @u4_16 (aI @u4_17 (aI @u4_18 (aI @u4_19 (aI @u4_20 (aI @u4_21 (aI @u4_22 (aI @u4_23 (aI @u4_24 (aI @u4_25 (aI @u4_26 (aI @u4_27 (aI @u4_28 (aI @u4_29 (aI @u4_30 (aI @u4_31 (aI @u4_32 (aI @u4_33 (aI @u4_34 (aI @u4_35 @u4_36)))))))))))))))))))))))))))))))))))
end

section
variable (nm : List UInt8) (st : Int) (v : Value) (cs : List (List UInt8)) (b s : List UInt8) (hnm : nm.length ≤ 9223372036854775807) (hl : cs.length ≤ 9223372036854775807) (hs : ∀ x ∈ cs, x.length ≤ 9223372036854775807) (hb : b.length ≤ 9223372036854775807 ∧ s.length ≤ 9223372036854775807)
include hnm hs hl hb
theorem lFnExactSetRow_ok (w : World) (h : Sq fS 1 w v cs) : Fn 3 [mV nm st v, kV b s] w (fun r _ => r = .bool true) := by
  (refine callsV_of mix Try.func3 c_lFnExactSetRow ?_; simp only [↓vsd, vsn, gW, qd, qv, ev, pick, argE, zipE, ne_eq, eq_self, forall_const, implies_true, if_true, if_false, reduceIte, reduceCtorEq, Nat.reduceEqDiff, Nat.reduceAdd, Nat.reduceLT, ↓us_lFnExactSetRow, r_lFnExactSetRow])
  refine m_al ?_
  rintro b1 w1 hb1 hblk1 hx1 hs1
  have h1 : Blk w1 b1 (fM nm st v) 24 := hblk1
  simp only [↓vsd, vsn, gW, qd, qv, ev, pick, argE, zipE, ne_eq, eq_self, forall_const, implies_true, if_true, if_false, reduceIte, reduceCtorEq, Nat.reduceEqDiff, Nat.reduceAdd, Nat.reduceLT, ↓us_lFnExactSetRow, r_lFnExactSetRow, h1.facts, fMg]
  refine m_al ?_
  rintro b2 w2 hb2 hblk2 hx2 hs2
  have h2 : Blk w2 b2 (fQ b s) 26 := hblk2
  have h12 := h1.ext hx2
  have hx12 := hx1.trans hx2
  simp only [↓vsd, vsn, gW, qd, qv, ev, pick, argE, zipE, ne_eq, eq_self, forall_const, implies_true, if_true, if_false, reduceIte, reduceCtorEq, Nat.reduceEqDiff, Nat.reduceAdd, Nat.reduceLT, ↓us_lFnExactSetRow, r_lFnExactSetRow, h12.facts, h2.facts, fMg, fQg]
  refine m_call (lszMethod_ok nm st v cs 1048576 (by decide) hnm hl hs _ (h.ext hx12)) ?_
  rintro _ w3 hx3 ⟨m, rfl, hm1, hm⟩
  have hx13 := hx12.trans hx3
  have h13 := h12.ext hx3
  have h23 := h2.ext hx3
  simp only [↓vsd, vsn, gW, qd, qv, ev, pick, argE, zipE, ne_eq, eq_self, forall_const, implies_true, if_true, if_false, reduceIte, reduceCtorEq, Nat.reduceEqDiff, Nat.reduceAdd, Nat.reduceLT, ↓us_lFnExactSetRow, r_lFnExactSetRow, h13.facts, h23.facts, fMg, fQg]
  refine ⟨fun _ => hx13, fun h0 => ?_⟩
  obtain ⟨hnm, hl, hs⟩ := hm h0
  refine m_call (lszCalls_ok b s m ⟨hm1, h0⟩ hb _) ?_
  rintro _ w4 hx4 ⟨m2, rfl, hm21, hm2⟩
  have hx14 := hx13.trans hx4
  have h14 := h13.ext hx4
  have h24 := h23.ext hx4
  simp only [↓vsd, vsn, gW, qd, qv, ev, pick, argE, zipE, ne_eq, eq_self, forall_const, implies_true, if_true, if_false, reduceIte, reduceCtorEq, Nat.reduceEqDiff, Nat.reduceAdd, Nat.reduceLT, ↓us_lFnExactSetRow, r_lFnExactSetRow, h14.facts, h24.facts, fMg, fQg]
  refine ⟨fun _ => hx14, fun h02 => ?_⟩
  have hb := hm2 h02
  refine m_call (ltoMethod_ok nm st v cs hl _ (by first | exact h.ext hx14 | exact h.ext (dr hx14))) ?_
  rintro _ w5 hx5 ⟨x5, rfl, ho5⟩
  have hx5 : Ext w4 w5 := by first | exact hx5 | exact ud hx5 | exact ud (ud hx5)
  have h25 := h24.ext hx5
  have hx15 := hx14.trans hx5
  simp only [↓vsd, vsn, gW, qd, qv, ev, pick, argE, zipE, ne_eq, eq_self, forall_const, implies_true, if_true, if_false, reduceIte, reduceCtorEq, Nat.reduceEqDiff, Nat.reduceAdd, Nat.reduceLT, ↓us_lFnExactSetRow, r_lFnExactSetRow, h25.facts, fQg]
  refine m_call (ltoCalls_ok b s _) ?_
  rintro _ w6 hx6 rfl
  have hx6 : Ext w5 w6 := by first | exact hx6 | exact ud hx6 | exact ud (ud hx6)
  have hx16 := hx15.trans hx6
  simp only [↓vsd, vsn, gW, qd, qv, ev, pick, argE, zipE, ne_eq, eq_self, forall_const, implies_true, if_true, if_false, reduceIte, reduceCtorEq, Nat.reduceEqDiff, Nat.reduceAdd, Nat.reduceLT, ↓us_lFnExactSetRow, r_lFnExactSetRow]
  refine m_call (sSetRow_ok nm st x5 cs b s hnm hs (by omega) hb _ (ho5.ext hx6).sq) ?_
  rintro _ w7 hx7 rfl
  have hx7 : Ext w6 w7 := by first | exact hx7 | exact ud hx7 | exact ud (ud hx7)
  generalize hR : (if BkOk nm st cs b s then Value.tuple ⟨[S (qR st.toNat cs b s), .bool true]⟩ else .tuple ⟨[S [], .bool false]⟩) = R
  obtain ⟨g, ok, rfl⟩ : ∃ g ok, R = .tuple ⟨[S g, .bool ok]⟩ := by
    by_cases hh : BkOk nm st cs b s
    · rw [if_pos hh] at hR; exact ⟨_, _, hR.symm⟩
    · rw [if_neg hh] at hR; exact ⟨_, _, hR.symm⟩
  simp only [↓vsd, vsn, gW, qd, qv, ev, pick, argE, zipE, ne_eq, eq_self, forall_const, implies_true, if_true, if_false, reduceIte, reduceCtorEq, Nat.reduceEqDiff, Nat.reduceAdd, Nat.reduceLT, ↓us_lFnExactSetRow, r_lFnExactSetRow]
  have hx17 := hx16.trans hx7
  have h17 := h14.ext ((hx5.trans hx6).trans hx7)
  have h27 := h25.ext (hx6.trans hx7)
  simp only [↓vsd, vsn, gW, qd, qv, ev, pick, argE, zipE, ne_eq, eq_self, forall_const, implies_true, if_true, if_false, reduceIte, reduceCtorEq, Nat.reduceEqDiff, Nat.reduceAdd, Nat.reduceLT, ↓us_lFnExactSetRow, r_lFnExactSetRow, h17.facts, h27.facts, fMg, fQg]
  refine m_call (ltoMethod_ok nm st v cs hl _ (by first | exact h.ext hx17 | exact h.ext (dr hx17))) ?_
  rintro _ w8 hx8 ⟨x8, rfl, ho8⟩
  have hx8 : Ext w7 w8 := by first | exact hx8 | exact ud hx8 | exact ud (ud hx8)
  simp only [↓vsd, vsn, gW, qd, qv, ev, pick, argE, zipE, ne_eq, eq_self, forall_const, implies_true, if_true, if_false, reduceIte, reduceCtorEq, Nat.reduceEqDiff, Nat.reduceAdd, Nat.reduceLT, ↓us_lFnExactSetRow, r_lFnExactSetRow]
  have h18 := h17.ext hx8
  have h28 := h27.ext hx8
  have hx18 := hx17.trans hx8
  refine m_al ?_
  rintro b9 w9 hb9 hblk9 hx9 hs9
  have h19 := h18.ext hx9
  have h29 := h28.ext hx9
  simp only [↓vsd, vsn, gW, qd, qv, ev, pick, argE, zipE, ne_eq, eq_self, forall_const, implies_true, if_true, if_false, reduceIte, reduceCtorEq, Nat.reduceEqDiff, Nat.reduceAdd, Nat.reduceLT, ↓us_lFnExactSetRow, r_lFnExactSetRow, h19.facts, h29.facts, fMg, fQg]
  refine m_st hblk9 rfl (Nat.le_refl 3) (fM_one nm st x8 ho8.sq.one') ?_
  rintro w10 hblk10 hu10
  have hb10 : Blk w10 b9 (fM nm st x8) 31 := hblk10
  have hx19 := hx18.trans hx9
  have hx110 : Ext w w10 := hu10.below hx19 (by have := hx18.size; omega)
  have ho10 := (ho8.ext hx9).upd hu10 (ho8.away (by omega))
  have h110 := hu10.blk h19 (by have := h18.lt; omega)
  have h210 := hu10.blk h29 (by have := h28.lt; omega)
  simp only [↓vsd, vsn, gW, qd, qv, ev, pick, argE, zipE, ne_eq, eq_self, forall_const, implies_true, if_true, if_false, reduceIte, reduceCtorEq, Nat.reduceEqDiff, Nat.reduceAdd, Nat.reduceLT, ↓us_lFnExactSetRow, r_lFnExactSetRow, h110.facts, h210.facts, hb10.facts, fMg, fQg]
  refine m_call (ltoCalls_ok b s _) ?_
  rintro _ w11 hx11 rfl
  have hx11 : Ext w10 w11 := by first | exact hx11 | exact ud hx11 | exact ud (ud hx11)
  have h111 := h110.ext hx11
  have h211 := h210.ext hx11
  have hb11 := hb10.ext hx11
  have hx111 := hx110.trans hx11
  simp only [↓vsd, vsn, gW, qd, qv, ev, pick, argE, zipE, ne_eq, eq_self, forall_const, implies_true, if_true, if_false, reduceIte, reduceCtorEq, Nat.reduceEqDiff, Nat.reduceAdd, Nat.reduceLT, ↓us_lFnExactSetRow, r_lFnExactSetRow, h111.facts, h211.facts, hb11.facts, fMg, fQg]
  refine m_call (iSetRow_ok nm st x8 cs b s hnm hs (by omega) hb _ (ho10.ext hx11).sq) ?_
  rintro _ w12 hxn rfl
  have hxn : Ext w11 w12 := by first | exact hxn | exact ud hxn | exact ud (ud hxn)
  rw [hR]
  have hx112 := hx111.trans hxn
  have h112 := h111.ext hxn
  have hb12 := hb11.ext hxn
  have ho12 := (ho10.ext hx11).ext hxn
  simp only [↓vsd, vsn, gW, qd, qv, ev, pick, argE, zipE, ne_eq, eq_self, forall_const, implies_true, if_true, if_false, reduceIte, reduceCtorEq, Nat.reduceEqDiff, Nat.reduceAdd, Nat.reduceLT, ↓us_lFnExactSetRow, r_lFnExactSetRow, h112.facts, hb12.facts, fMg]
  refine m_call (ltoMethod_ok nm st v cs hl _ (by first | exact h.ext hx112 | exact h.ext (dr hx112))) ?_
  rintro _ w13 hxm ⟨x13, rfl, ho13⟩
  have hxm : Ext w12 w13 := by first | exact hxm | exact ud hxm | exact ud (ud hxm)
  have hb13 := hb12.ext hxm
  simp only [↓vsd, vsn, gW, qd, qv, ev, pick, argE, zipE, ne_eq, eq_self, forall_const, implies_true, if_true, if_false, reduceIte, reduceCtorEq, Nat.reduceEqDiff, Nat.reduceAdd, Nat.reduceLT, ↓us_lFnExactSetRow, r_lFnExactSetRow, hb13.facts, fMg]
  refine m_call (leqMethod_ok nm nm st st x8 x13 cs cs (by omega) _ (ho12.ext hxm).sq ho13.sq) ?_
  rintro _ w14 hxk rfl
  have hxk : Ext w13 w14 := by first | exact hxk | exact ud hxk | exact ud (ud hxk)
  simp only [↓vsd, vsn, gW, qd, qv, ev, pick, argE, zipE, ne_eq, eq_self, forall_const, implies_true, if_true, if_false, reduceIte, reduceCtorEq, Nat.reduceEqDiff, Nat.reduceAdd, Nat.reduceLT, ↓us_lFnExactSetRow, r_lFnExactSetRow]
  exact (hx112.trans hxm).trans hxk
theorem lFnExactLeadGroup_ok (w : World) (h : Sq fS 1 w v cs) : Fn 4 [mV nm st v, kV b s] w (fun r _ => r = .bool true) := by
  (refine callsV_of mix Try.func4 c_lFnExactLeadGroup ?_; simp only [↓vsd, vsn, gW, qd, qv, ev, pick, argE, zipE, ne_eq, eq_self, forall_const, implies_true, if_true, if_false, reduceIte, reduceCtorEq, Nat.reduceEqDiff, Nat.reduceAdd, Nat.reduceLT, ↓us_lFnExactLeadGroup, r_lFnExactLeadGroup])
  refine m_al ?_
  rintro b1 w1 hb1 hblk1 hx1 hs1
  have h1 : Blk w1 b1 (fM nm st v) 24 := hblk1
  simp only [↓vsd, vsn, gW, qd, qv, ev, pick, argE, zipE, ne_eq, eq_self, forall_const, implies_true, if_true, if_false, reduceIte, reduceCtorEq, Nat.reduceEqDiff, Nat.reduceAdd, Nat.reduceLT, ↓us_lFnExactLeadGroup, r_lFnExactLeadGroup, h1.facts, fMg]
  refine m_al ?_
  rintro b2 w2 hb2 hblk2 hx2 hs2
  have h2 : Blk w2 b2 (fQ b s) 26 := hblk2
  have h12 := h1.ext hx2
  have hx12 := hx1.trans hx2
  simp only [↓vsd, vsn, gW, qd, qv, ev, pick, argE, zipE, ne_eq, eq_self, forall_const, implies_true, if_true, if_false, reduceIte, reduceCtorEq, Nat.reduceEqDiff, Nat.reduceAdd, Nat.reduceLT, ↓us_lFnExactLeadGroup, r_lFnExactLeadGroup, h12.facts, h2.facts, fMg, fQg]
  refine m_call (lszMethod_ok nm st v cs 1048576 (by decide) hnm hl hs _ (h.ext hx12)) ?_
  rintro _ w3 hx3 ⟨m, rfl, hm1, hm⟩
  have hx13 := hx12.trans hx3
  have h13 := h12.ext hx3
  have h23 := h2.ext hx3
  simp only [↓vsd, vsn, gW, qd, qv, ev, pick, argE, zipE, ne_eq, eq_self, forall_const, implies_true, if_true, if_false, reduceIte, reduceCtorEq, Nat.reduceEqDiff, Nat.reduceAdd, Nat.reduceLT, ↓us_lFnExactLeadGroup, r_lFnExactLeadGroup, h13.facts, h23.facts, fMg, fQg]
  refine ⟨fun _ => hx13, fun h0 => ?_⟩
  obtain ⟨hnm, hl, hs⟩ := hm h0
  refine m_call (lszCalls_ok b s m ⟨hm1, h0⟩ hb _) ?_
  rintro _ w4 hx4 ⟨m2, rfl, hm21, hm2⟩
  have hx14 := hx13.trans hx4
  have h14 := h13.ext hx4
  have h24 := h23.ext hx4
  simp only [↓vsd, vsn, gW, qd, qv, ev, pick, argE, zipE, ne_eq, eq_self, forall_const, implies_true, if_true, if_false, reduceIte, reduceCtorEq, Nat.reduceEqDiff, Nat.reduceAdd, Nat.reduceLT, ↓us_lFnExactLeadGroup, r_lFnExactLeadGroup, h14.facts, h24.facts, fMg, fQg]
  refine ⟨fun _ => hx14, fun h02 => ?_⟩
  have hb := hm2 h02
  refine m_call (ltoMethod_ok nm st v cs hl _ (by first | exact h.ext hx14 | exact h.ext (dr hx14))) ?_
  rintro _ w5 hx5 ⟨x5, rfl, ho5⟩
  have hx5 : Ext w4 w5 := by first | exact hx5 | exact ud hx5 | exact ud (ud hx5)
  have h25 := h24.ext hx5
  have hx15 := hx14.trans hx5
  simp only [↓vsd, vsn, gW, qd, qv, ev, pick, argE, zipE, ne_eq, eq_self, forall_const, implies_true, if_true, if_false, reduceIte, reduceCtorEq, Nat.reduceEqDiff, Nat.reduceAdd, Nat.reduceLT, ↓us_lFnExactLeadGroup, r_lFnExactLeadGroup, h25.facts, fQg]
  refine m_call (ltoCalls_ok b s _) ?_
  rintro _ w6 hx6 rfl
  have hx6 : Ext w5 w6 := by first | exact hx6 | exact ud hx6 | exact ud (ud hx6)
  have hx16 := hx15.trans hx6
  simp only [↓vsd, vsn, gW, qd, qv, ev, pick, argE, zipE, ne_eq, eq_self, forall_const, implies_true, if_true, if_false, reduceIte, reduceCtorEq, Nat.reduceEqDiff, Nat.reduceAdd, Nat.reduceLT, ↓us_lFnExactLeadGroup, r_lFnExactLeadGroup]
  refine m_call (sLeadGroup_ok nm st x5 cs b s hnm hs (by omega) hb _ (ho5.ext hx6).sq) ?_
  rintro _ w7 hx7 ⟨y7, rfl, ho7⟩
  have hx7 : Ext w6 w7 := by first | exact hx7 | exact ud hx7 | exact ud (ud hx7)
  simp only [↓vsd, vsn, gW, qd, qv, ev, pick, argE, zipE, ne_eq, eq_self, forall_const, implies_true, if_true, if_false, reduceIte, reduceCtorEq, Nat.reduceEqDiff, Nat.reduceAdd, Nat.reduceLT, ↓us_lFnExactLeadGroup, r_lFnExactLeadGroup]
  have hx17 := hx16.trans hx7
  have h17 := h14.ext ((hx5.trans hx6).trans hx7)
  have h27 := h25.ext (hx6.trans hx7)
  simp only [↓vsd, vsn, gW, qd, qv, ev, pick, argE, zipE, ne_eq, eq_self, forall_const, implies_true, if_true, if_false, reduceIte, reduceCtorEq, Nat.reduceEqDiff, Nat.reduceAdd, Nat.reduceLT, ↓us_lFnExactLeadGroup, r_lFnExactLeadGroup, h17.facts, h27.facts, fMg, fQg]
  refine m_call (ltoMethod_ok nm st v cs hl _ (by first | exact h.ext hx17 | exact h.ext (dr hx17))) ?_
  rintro _ w8 hx8 ⟨x8, rfl, ho8⟩
  have hx8 : Ext w7 w8 := by first | exact hx8 | exact ud hx8 | exact ud (ud hx8)
  simp only [↓vsd, vsn, gW, qd, qv, ev, pick, argE, zipE, ne_eq, eq_self, forall_const, implies_true, if_true, if_false, reduceIte, reduceCtorEq, Nat.reduceEqDiff, Nat.reduceAdd, Nat.reduceLT, ↓us_lFnExactLeadGroup, r_lFnExactLeadGroup]
  have h18 := h17.ext hx8
  have h28 := h27.ext hx8
  have hx18 := hx17.trans hx8
  refine m_al ?_
  rintro b9 w9 hb9 hblk9 hx9 hs9
  have h19 := h18.ext hx9
  have h29 := h28.ext hx9
  simp only [↓vsd, vsn, gW, qd, qv, ev, pick, argE, zipE, ne_eq, eq_self, forall_const, implies_true, if_true, if_false, reduceIte, reduceCtorEq, Nat.reduceEqDiff, Nat.reduceAdd, Nat.reduceLT, ↓us_lFnExactLeadGroup, r_lFnExactLeadGroup, h19.facts, h29.facts, fMg, fQg]
  refine m_st hblk9 rfl (Nat.le_refl 3) (fM_one nm st x8 ho8.sq.one') ?_
  rintro w10 hblk10 hu10
  have hb10 : Blk w10 b9 (fM nm st x8) 31 := hblk10
  have hx19 := hx18.trans hx9
  have hx110 : Ext w w10 := hu10.below hx19 (by have := hx18.size; omega)
  have ho10 := (ho8.ext hx9).upd hu10 (ho8.away (by omega))
  have h110 := hu10.blk h19 (by have := h18.lt; omega)
  have h210 := hu10.blk h29 (by have := h28.lt; omega)
  simp only [↓vsd, vsn, gW, qd, qv, ev, pick, argE, zipE, ne_eq, eq_self, forall_const, implies_true, if_true, if_false, reduceIte, reduceCtorEq, Nat.reduceEqDiff, Nat.reduceAdd, Nat.reduceLT, ↓us_lFnExactLeadGroup, r_lFnExactLeadGroup, h110.facts, h210.facts, hb10.facts, fMg, fQg]
  refine m_call (ltoCalls_ok b s _) ?_
  rintro _ w11 hx11 rfl
  have hx11 : Ext w10 w11 := by first | exact hx11 | exact ud hx11 | exact ud (ud hx11)
  have h111 := h110.ext hx11
  have h211 := h210.ext hx11
  have hb11 := hb10.ext hx11
  have hx111 := hx110.trans hx11
  simp only [↓vsd, vsn, gW, qd, qv, ev, pick, argE, zipE, ne_eq, eq_self, forall_const, implies_true, if_true, if_false, reduceIte, reduceCtorEq, Nat.reduceEqDiff, Nat.reduceAdd, Nat.reduceLT, ↓us_lFnExactLeadGroup, r_lFnExactLeadGroup, h111.facts, h211.facts, hb11.facts, fMg, fQg]
  have hw10 := ((ho7.ext hx8).ext hx9).upd hu10 ((ho7.ext hx8).away (by omega))
  refine m_call (iLeadGroup_ok nm st x8 cs b s hnm hs (by omega) hb _ (ho10.ext hx11).sq) ?_
  rintro _ w12 hxn ⟨y12, rfl, ho12⟩
  have hxn : Ext w11 w12 := by first | exact hxn | exact ud hxn | exact ud (ud hxn)
  have hLl : (grpV nm st cs b s).length ≤ 1000 := by
    unfold grpV
    split
    · have := genV_len [hP st.toNat cs b s, hB st.toNat cs b s] (roundsL st.toNat) 130
      unfold grpL; omega
    · simp
  generalize hmvb : decide (BkOk nm st cs b s) = mb at *
  generalize hL : grpV nm st cs b s = L at *
  have hx112 := hx111.trans hxn
  have hw12 := (hw10.ext hx11).ext hxn
  have ho812 := (ho10.ext hx11).ext hxn
  have h112 := h111.ext hxn
  have h212 := h211.ext hxn
  have hb12 := hb11.ext hxn
  simp only [↓vsd, vsn, gW, qd, qv, ev, pick, argE, zipE, ne_eq, eq_self, forall_const, implies_true, if_true, if_false, reduceIte, reduceCtorEq, Nat.reduceEqDiff, Nat.reduceAdd, Nat.reduceLT, ↓us_lFnExactLeadGroup, r_lFnExactLeadGroup]
  refine m_call (leqStringS_ok y12 y7 L L _ ho12.sq hw12.sq (by omega)) ?_
  rintro _ w13 hx13b rfl
  have hx113 := hx112.trans hx13b
  have h113 := h112.ext hx13b
  have h213 := h212.ext hx13b
  have hb13 := hb12.ext hx13b
  simp only [↓vsd, vsn, gW, qd, qv, ev, pick, argE, zipE, ne_eq, eq_self, forall_const, implies_true, if_true, if_false, reduceIte, reduceCtorEq, Nat.reduceEqDiff, Nat.reduceAdd, Nat.reduceLT, ↓us_lFnExactLeadGroup, r_lFnExactLeadGroup, h113.facts, h213.facts, hb13.facts, fMg, fQg]
  refine m_call (ltoMethod_ok nm st v cs hl _ (by first | exact h.ext hx113 | exact h.ext (dr hx113))) ?_
  rintro _ w14 hx14b ⟨x14, rfl, ho14⟩
  have hx14b : Ext w13 w14 := by first | exact hx14b | exact ud hx14b | exact ud (ud hx14b)
  have hx114 := hx113.trans hx14b
  have h114 := h113.ext hx14b
  have h214 := h213.ext hx14b
  have hb14 := hb13.ext hx14b
  simp only [↓vsd, vsn, gW, qd, qv, ev, pick, argE, zipE, ne_eq, eq_self, forall_const, implies_true, if_true, if_false, reduceIte, reduceCtorEq, Nat.reduceEqDiff, Nat.reduceAdd, Nat.reduceLT, ↓us_lFnExactLeadGroup, r_lFnExactLeadGroup, h114.facts, h214.facts, hb14.facts, fMg, fQg]
  refine m_call (leqMethod_ok nm nm st st x8 x14 cs cs (by omega) _ ((ho812.ext hx13b).ext hx14b).sq ho14.sq) ?_
  rintro _ w15 hx15b rfl
  have hx115 := hx114.trans hx15b
  have h115 := h114.ext hx15b
  have h215 := h214.ext hx15b
  have hb15 := hb14.ext hx15b
  simp only [↓vsd, vsn, gW, qd, qv, ev, pick, argE, zipE, ne_eq, eq_self, forall_const, implies_true, if_true, if_false, reduceIte, reduceCtorEq, Nat.reduceEqDiff, Nat.reduceAdd, Nat.reduceLT, ↓us_lFnExactLeadGroup, r_lFnExactLeadGroup, h115.facts, h215.facts, hb15.facts, fMg, fQg]
  have ho815 := ((ho812.ext hx13b).ext hx14b).ext hx15b
  have ho1215 := ((ho12.ext hx13b).ext hx14b).ext hx15b
  have hw15 := ((hw12.ext hx13b).ext hx14b).ext hx15b
  refine m_callw (.inl rfl) (lmarkMethod_ok nm st x8 cs _ 1 (by omega) (by omega) _ ho815) ?_
  rintro _ w16 ⟨rfl, ho816, hg16⟩
  have hs8 := hx8.size
  have hs7 := hx7.size
  have hxs17 := hx17.size
  have hx116 : Ext w w16 := (ho815.mono (B' := w.heap.size) hxs17).grown hx115 (Nat.le_refl _) hg16
  have hx8far : ∀ c, x8.ownBlock = some c → w7.heap.size ≤ c ∧ c < w8.heap.size := fun c hc => ⟨(ho8.bound c hc).1, ho8.lt c hc⟩
  have hs810 : w8.heap.size ≤ w11.heap.size := by have := hx9.size; have := hu10.size; have := hx11.size; omega
  have h116 := h115.same (hg16.block b1 h115.lt (fun e => by have := (hx8far b1 e.symm).1; have := h17.lt; omega))
  have h216 := h215.same (hg16.block b2 h215.lt (fun e => by have := (hx8far b2 e.symm).1; have := h27.lt; omega))
  have ho1216 := ho1215.off hg16 (fun c hc => ho12.away' (by have := (hx8far c hc).2; omega))
  have hw16 := hw15.off hg16 (fun c hc => ho7.away (hx8far c hc).1)
  simp only [↓vsd, vsn, gW, qd, qv, ev, pick, argE, zipE, ne_eq, eq_self, forall_const, implies_true, if_true, if_false, reduceIte, reduceCtorEq, Nat.reduceEqDiff, Nat.reduceAdd, Nat.reduceLT, ↓us_lFnExactLeadGroup, r_lFnExactLeadGroup]
  refine ⟨fun _ => ?_, fun hneg => by omega⟩
  refine m_call (leqStringS_ok y12 y7 L L _ ho1216.sq hw16.sq (by omega)) ?_
  rintro _ w17 hx17b rfl
  have hx117 := hx116.trans hx17b
  simp only [↓vsd, vsn, gW, qd, qv, ev, pick, argE, zipE, ne_eq, eq_self, forall_const, implies_true, if_true, if_false, reduceIte, reduceCtorEq, Nat.reduceEqDiff, Nat.reduceAdd, Nat.reduceLT, ↓us_lFnExactLeadGroup, r_lFnExactLeadGroup]
  refine ⟨fun hneg => by omega, fun _ => ?_⟩
  refine m_callw (.inl rfl) (lmarkStringS_ok y12 L _ 1 (by omega) (by omega) _ (ho1216.ext hx17b)) ?_
  rintro _ w18 ⟨rfl, ho1218, hg18⟩
  have hx118 : Ext w w18 := ((ho1216.ext hx17b).mono (B' := w.heap.size) (by have := hx111.size; omega)).grown hx117 (Nat.le_refl _) hg18
  have h118 := (h116.ext hx17b).same (hg18.block b1 (h116.ext hx17b).lt (fun e => by have := (ho1218.bound b1 e.symm).1; have := h17.lt; omega))
  have h218 := (h216.ext hx17b).same (hg18.block b2 (h216.ext hx17b).lt (fun e => by have := (ho1218.bound b2 e.symm).1; have := h27.lt; omega))
  have hw18 := (hw16.ext hx17b).off hg18 (fun c hc => ho7.away (by have := (ho1218.bound c hc).1; omega))
  simp only [↓vsd, vsn, gW, qd, qv, ev, pick, argE, zipE, ne_eq, eq_self, forall_const, implies_true, if_true, if_false, reduceIte, reduceCtorEq, Nat.reduceEqDiff, Nat.reduceAdd, Nat.reduceLT, ↓us_lFnExactLeadGroup, r_lFnExactLeadGroup]
  refine m_call (lheldStringS_ok y12 L.length 1 (by omega) (by omega) _ ho1218.sq) ?_
  rintro _ w19 hx19b rfl
  have hx119 := hx118.trans hx19b
  have h119 := h118.ext hx19b
  have h219 := h218.ext hx19b
  simp only [↓vsd, vsn, gW, qd, qv, ev, pick, argE, zipE, ne_eq, eq_self, forall_const, implies_true, if_true, if_false, reduceIte, reduceCtorEq, Nat.reduceEqDiff, Nat.reduceAdd, Nat.reduceLT, ↓us_lFnExactLeadGroup, r_lFnExactLeadGroup, h119.facts, h219.facts, fMg, fQg]
  refine ⟨fun hneg => by omega, fun _ => ?_⟩
  refine m_call (ltoMethod_ok nm st v cs hl _ (by first | exact h.ext hx119 | exact h.ext (dr hx119))) ?_
  rintro _ w20 hx20 ⟨x20, rfl, ho20⟩
  have hx20 : Ext w19 w20 := by first | exact hx20 | exact ud hx20 | exact ud (ud hx20)
  have h220 := h219.ext hx20
  simp only [↓vsd, vsn, gW, qd, qv, ev, pick, argE, zipE, ne_eq, eq_self, forall_const, implies_true, if_true, if_false, reduceIte, reduceCtorEq, Nat.reduceEqDiff, Nat.reduceAdd, Nat.reduceLT, ↓us_lFnExactLeadGroup, r_lFnExactLeadGroup, h220.facts, fQg]
  refine m_call (ltoCalls_ok b s _) ?_
  rintro _ w21 hx21 rfl
  simp only [↓vsd, vsn, gW, qd, qv, ev, pick, argE, zipE, ne_eq, eq_self, forall_const, implies_true, if_true, if_false, reduceIte, reduceCtorEq, Nat.reduceEqDiff, Nat.reduceAdd, Nat.reduceLT, ↓us_lFnExactLeadGroup, r_lFnExactLeadGroup]
  refine m_call (iLeadGroup_ok nm st x20 cs b s hnm hs (by omega) hb _ (ho20.ext hx21).sq) ?_
  rintro _ w22 hx22 ⟨y22, rfl, ho22⟩
  have hx1922 := (hx20.trans hx21).trans hx22
  rw [hmvb]
  have ho22 := ho22.to hL
  simp only [↓vsd, vsn, gW, qd, qv, ev, pick, argE, zipE, ne_eq, eq_self, forall_const, implies_true, if_true, if_false, reduceIte, reduceCtorEq, Nat.reduceEqDiff, Nat.reduceAdd, Nat.reduceLT, ↓us_lFnExactLeadGroup, r_lFnExactLeadGroup]
  refine m_call (leqStringS_ok y22 y7 L L _ ho22.sq ((hw18.ext hx19b).ext hx1922).sq (by omega)) ?_
  rintro _ w23 hx23 rfl
  simp only [↓vsd, vsn, gW, qd, qv, ev, pick, argE, zipE, ne_eq, eq_self, forall_const, implies_true, if_true, if_false, reduceIte, reduceCtorEq, Nat.reduceEqDiff, Nat.reduceAdd, Nat.reduceLT, ↓us_lFnExactLeadGroup, r_lFnExactLeadGroup]
  refine m_call (lheldStringS_ok y12 L.length 1 (by omega) (by omega) _ (((ho1218.ext hx19b).ext hx1922).ext hx23).sq) ?_
  rintro _ w24 hx24 rfl
  simp only [↓vsd, vsn, gW, qd, qv, ev, pick, argE, zipE, ne_eq, eq_self, forall_const, implies_true, if_true, if_false, reduceIte, reduceCtorEq, Nat.reduceEqDiff, Nat.reduceAdd, Nat.reduceLT, ↓us_lFnExactLeadGroup, r_lFnExactLeadGroup]
  exact ⟨fun h => by omega, fun _ => ((hx119.trans hx1922).trans hx23).trans hx24⟩
end
end Go.Proofs.Ytnhealghpfjdcaa
