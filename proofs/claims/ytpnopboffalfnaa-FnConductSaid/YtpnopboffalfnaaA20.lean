/-
  Coursing orders of a touch, of both sides.
  Conditions: none.
-/
import Derived.Test.YtpnopboffalfnaaA18
import Derived.Test.YtpnopboffalfnaaA30
set_option linter.unusedSimpArgs false
set_option linter.unusedVariables false
set_option linter.defProp false
namespace Go.Proofs.Ytpnopboffalfnaa
open Go Go.RowKit
section
variable (P : Program) (k : KT) (e : Env) (w : World)
abbrev b141_1 : X := (.cond (.t 25) (.seq (.reg [6, 7] (.c (.q 6 [] (.mv (.c (.slice none 0 0)))) (.c (.q 7 [] (.mv (.c (.bool false)))) .nil))) .ret) .skip)
def t141_1 := b141_1
theorem u141_1 : vcK P t141_1 k e w = vcK P b141_1 k e w := rfl
abbrev b141_2 : X := (.cond (.t 49) (.seq (.reg [6, 7] (.c (.q 6 [] (.mv (.c (.slice none 0 0)))) (.c (.q 7 [] (.mv (.c (.bool false)))) .nil))) .ret) .skip)
def t141_2 := b141_2
theorem u141_2 : vcK P t141_2 k e w = vcK P b141_2 k e w := rfl
abbrev b141_3 : X := (.reg [2, 3, 4, 8, 9, 13, 33, 34, 50, 51, 52] (.c (.q 56 [] (.mv (.t 13))) (.c (.q 57 [] (.mv (.t 8))) (.c (.q 58 [] (.mv (.t 15))) (.c (.q 59 [] (.mv (.t 15))) (.c (.q 60 [] (.bin .add (.t 59) (.c (.int .i64 1)))) (.c (.q 61 [] (.sub (.t 57) (some (.t 58)) (some (.t 60)))) (.c (.q 62 [] (.bin .add (.t 56) (.t 61))) (.c (.q 13 [] (.mv (.t 62))) .nil)))))))))
def t141_3 := b141_3
theorem u141_3 : vcK P t141_3 k e w = vcK P b141_3 k e w := rfl
abbrev b141_4 : X := (.reg [2, 3, 4, 8, 9, 13, 33, 34, 50, 51, 52] (.c (.q 63 [] (.bin .add (.t 52) (.c (.int .i64 1)))) (.c (.q 52 [] (.mv (.t 63))) .nil)))
def t141_4 := b141_4
theorem u141_4 : vcK P t141_4 k e w = vcK P b141_4 k e w := rfl
abbrev b141_5 : X := (.seq (.blk 3 (.seq (.reg [2, 3, 4, 8, 9, 13, 15, 33, 34, 50, 51, 52] (.c (.q 54 [] (.ia 1 (.t 50) (.t 52))) (.c (.q 55 [] (.ld (.t 54))) (.c (.q 15 [] (.mv (.t 55))) .nil)))) t141_3)) t141_4)
def t141_5 := b141_5
theorem u141_5 : vcK P t141_5 k e w = vcK P b141_5 k e w := rfl
abbrev b141_6 : X := (.seq (.cond (.t 53) .skip (.exit 2)) t141_5)
def t141_6 := b141_6
theorem u141_6 : vcK P t141_6 k e w = vcK P b141_6 k e w := rfl
abbrev b141_7 : X := (.seq (.reg [2, 3, 4, 8, 9, 13, 33, 34, 50, 51, 52, 53] (.c (.q 53 [] (.bin .lss (.t 52) (.t 51))) .nil)) t141_6)
def t141_7 := b141_7
theorem u141_7 : vcK P t141_7 k e w = vcK P b141_7 k e w := rfl
abbrev b141_8 : X := (.blk 2 (.loop [13, 52] [2, 3, 4, 8, 9, 33, 34, 50, 51] t141_7))
def t141_8 := b141_8
theorem u141_8 : vcK P t141_8 k e w = vcK P b141_8 k e w := rfl
abbrev b141_9 : X := (.reg [2, 3, 4, 8, 9, 33, 34] (.c (.q 65 [] (.mv (.t 9))) (.c (.q 66 [] (.mv (.t 8))) (.c (.e (some 67) [] (.bsl 9 1 [(.t 66)])) (.c (.e (some 68) [] (.app 27 9 1 16 [(S [])] 27 (.t 65) (.t 67))) (.c (.q 9 [] (.mv (.t 68))) .nil))))))
def t141_9 := b141_9
theorem u141_9 : vcK P t141_9 k e w = vcK P b141_9 k e w := rfl
abbrev b141_10 : X := (.seq (.reg [2, 3, 4, 8, 9, 33, 34] (.c (.q 64 [] (.mv (.t 13))) (.c (.q 8 [] (.mv (.t 64))) .nil))) t141_9)
def t141_10 := b141_10
theorem u141_10 : vcK P t141_10 k e w = vcK P b141_10 k e w := rfl
abbrev b141_11 : X := (.seq (.seq (.reg [2, 3, 4, 8, 9, 13, 33, 34, 50, 51, 52] (.c (.q 50 [] (.mv (.t 11))) (.c (.q 51 [] (.lens (.t 50))) (.c (.q 52 [] (.mv (.c (.int .i64 0)))) .nil)))) t141_8) t141_10)
def t141_11 := b141_11
theorem u141_11 : vcK P t141_11 k e w = vcK P b141_11 k e w := rfl
abbrev b141_12 : X := (.seq (.reg [2, 3, 4, 8, 9, 11, 13, 33, 34] (.c (.q 13 [] (.mv (.s []))) .nil)) t141_11)
def t141_12 := b141_12
theorem u141_12 : vcK P t141_12 k e w = vcK P b141_12 k e w := rfl
abbrev b141_13 : X := (.seq (.seq (.reg [2, 3, 4, 8, 9, 11, 33, 34, 49] (.c (.q 48 [] (.mv (.t 12))) (.c (.q 49 [] (.not (.t 48))) .nil))) t141_2) t141_12)
def t141_13 := b141_13
theorem u141_13 : vcK P t141_13 k e w = vcK P b141_13 k e w := rfl
abbrev b141_14 : X := (.seq (.drw [2, 3, 4, 8, 9, 11, 12, 33, 34] (.c (.q 38 [] (.lda 3 (.t 3))) (.c (.q 39 [] (.lda 2 (.t 4))) (.c (.q 40 [] (.mv (.t 2))) (.c (.q 41 [] (.mv (.t 10))) (.c (.q 42 [] (.mv (.t 10))) (.c (.q 43 [] (.bin .add (.t 42) (.c (.int .i64 1)))) (.c (.q 44 [] (.sub (.t 40) (some (.t 41)) (some (.t 43)))) (.c (.e (some 45) [] (.call false 262 [(.t 38), (.t 39), (.t 44)])) (.c (.q 37 [] (.mv (.t 45))) (.c (.q 46 [] (.ext 0 (.t 37))) (.c (.q 47 [] (.ext 1 (.t 37))) (.c (.q 11 [] (.mv (.t 46))) (.c (.q 12 [] (.mv (.t 47))) .nil)))))))))))))) t141_13)
def t141_14 := b141_14
theorem u141_14 : vcK P t141_14 k e w = vcK P b141_14 k e w := rfl
abbrev b141_15 : X := (.reg [2, 3, 4, 8, 9, 33, 34] (.c (.q 69 [] (.bin .add (.t 34) (.c (.int .i64 1)))) (.c (.q 34 [] (.mv (.t 69))) .nil)))
def t141_15 := b141_15
theorem u141_15 : vcK P t141_15 k e w = vcK P b141_15 k e w := rfl
abbrev b141_16 : X := (.seq (.blk 1 (.seq (.reg [2, 3, 4, 8, 9, 10, 33, 34] (.c (.q 36 [] (.mv (.t 34))) (.c (.q 10 [] (.mv (.t 36))) .nil))) t141_14)) t141_15)
def t141_16 := b141_16
theorem u141_16 : vcK P t141_16 k e w = vcK P b141_16 k e w := rfl
abbrev b141_17 : X := (.seq (.cond (.t 35) .skip (.exit 0)) t141_16)
def t141_17 := b141_17
theorem u141_17 : vcK P t141_17 k e w = vcK P b141_17 k e w := rfl
abbrev b141_18 : X := (.seq (.reg [2, 3, 4, 8, 9, 33, 34, 35] (.c (.q 35 [] (.bin .lss (.t 34) (.t 33))) .nil)) t141_17)
def t141_18 := b141_18
theorem u141_18 : vcK P t141_18 k e w = vcK P b141_18 k e w := rfl
abbrev b141_19 : X := (.blk 0 (.loop [8, 9, 34] [2, 3, 4, 33] t141_18))
def t141_19 := b141_19
theorem u141_19 : vcK P t141_19 k e w = vcK P b141_19 k e w := rfl
abbrev b141_20 : X := (.seq (.reg [6, 7] (.c (.q 70 [] (.mv (.t 9))) (.c (.q 6 [] (.mv (.t 70))) (.c (.q 7 [] (.mv (.c (.bool true)))) .nil)))) .ret)
def t141_20 := b141_20
theorem u141_20 : vcK P t141_20 k e w = vcK P b141_20 k e w := rfl
abbrev b141_21 : X := (.seq (.seq (.reg [2, 3, 4, 8, 9, 33, 34] (.c (.q 32 [] (.mv (.t 2))) (.c (.q 33 [] (.len (.t 32))) (.c (.q 34 [] (.mv (.c (.int .i64 0)))) .nil)))) t141_19) t141_20)
def t141_21 := b141_21
theorem u141_21 : vcK P t141_21 k e w = vcK P b141_21 k e w := rfl
abbrev b141_22 : X := (.seq (.reg [2, 3, 4, 8, 9] (.c (.q 30 [] (.mv (.t 8))) (.c (.e (some 31) [] (.bsl 9 1 [(.t 30)])) (.c (.q 9 [] (.mv (.t 31))) .nil)))) t141_21)
def t141_22 := b141_22
theorem u141_22 : vcK P t141_22 k e w = vcK P b141_22 k e w := rfl
abbrev b141_23 : X := (.seq (.reg [2, 3, 4, 8] (.c (.q 26 [] (.fa 1 (.t 3))) (.c (.q 27 [] (.ld (.t 26))) (.c (.e (some 28) [] (.call false 178 [(.t 27)])) (.c (.e (some 29) [] (.call false 261 [(.t 28)])) (.c (.q 8 [] (.mv (.t 29))) .nil)))))) t141_22)
def t141_23 := b141_23
theorem u141_23 : vcK P t141_23 k e w = vcK P b141_23 k e w := rfl
abbrev b141_24 : X := (.seq (.seq (.reg [2, 3, 4, 25] (.c (.q 16 [] (.lda 3 (.t 3))) (.c (.e (some 17) [] (.call false 260 [(.t 16)])) (.c (.q 18 [] (.not (.t 17))) (.c (.q 19 [] (.mv (.t 18))) (.c (.q 20 [(19, false)] (.lda 3 (.t 3))) (.c (.q 21 [(19, false)] (.lda 2 (.t 4))) (.c (.q 22 [(19, false)] (.mv (.t 2))) (.c (.e (some 23) [(19, false)] (.call false 161 [(.t 20), (.t 21), (.t 22)])) (.c (.q 24 [(19, false)] (.not (.t 23))) (.c (.q 25 [] (.pick (.t 19) (.c (.bool true)) (.t 24))) .nil))))))))))) t141_1) t141_23)
def t141_24 := b141_24
theorem u141_24 : vcK P t141_24 k e w = vcK P b141_24 k e w := rfl
abbrev b141_0 : X := (.seq (.reg [2, 3, 4] (.c (.e (some 3) [] (.box 41 (.t 0))) (.c (.e (some 4) [] (.box 32 (.t 1))) (.c (.q 6 [] (.mv (.c (.slice none 0 0)))) (.c (.q 7 [] (.mv (.c (.bool false)))) .nil))))) t141_24)
def x_iConductLine := b141_0
theorem u141_0 : vcK P x_iConductLine k e w = vcK P b141_0 k e w := rfl
def r_iConductLine : List XO := [(.mv (.t 6)), (.mv (.t 7))]
theorem c_iConductLine : convF Try.prog [169, 170, 207, 208, 210, 227, 232, 233, 255, 259, 268, 269, 270, 280, 281, 296, 299, 306, 307, 309] Try.f141 [([2, 3, 4], []), ([2, 3, 4, 25], []), ([6, 7], []), ([2, 3, 4, 8], []), ([2, 3, 4, 8, 9], []), ([2, 3, 4, 8, 9, 33, 34], []), ([8, 9, 34], [2, 3, 4, 33]), ([2, 3, 4, 8, 9, 33, 34, 35], []), ([2, 3, 4, 8, 9, 10, 33, 34], []), ([2, 3, 4, 8, 9, 11, 12, 33, 34], []), ([2, 3, 4, 8, 9, 11, 33, 34, 49], []), ([6, 7], []), ([2, 3, 4, 8, 9, 11, 13, 33, 34], []), ([2, 3, 4, 8, 9, 13, 33, 34, 50, 51, 52], []), ([13, 52], [2, 3, 4, 8, 9, 33, 34, 50, 51]), ([2, 3, 4, 8, 9, 13, 33, 34, 50, 51, 52, 53], []), ([2, 3, 4, 8, 9, 13, 15, 33, 34, 50, 51, 52], []), ([2, 3, 4, 8, 9, 13, 33, 34, 50, 51, 52], []), ([2, 3, 4, 8, 9, 13, 33, 34, 50, 51, 52], []), ([2, 3, 4, 8, 9, 33, 34], []), ([2, 3, 4, 8, 9, 33, 34], []), ([2, 3, 4, 8, 9, 33, 34], []), ([6, 7], [])] = some (x_iConductLine, r_iConductLine) := by kernel_rfl
def us_iConductLine := aI @u141_0 (aI @u141_1 (aI @u141_2 (aI @u141_3 (aI @u141_4 (aI @u141_5 (aI @u141_6 (aI @u141_7 (aI @u141_8 (aI @u141_9 (aI @u141_10 (aI @u141_11 (aI @u141_12 (aI @u141_13 (aI @u141_14 (aI @u141_15 (aI @u141_16 (aI @u141_17 (aI @u141_18 (aI @u141_19 (aI @u141_20 (aI @u141_21 (aI @u141_22 (aI @u141_23 @u141_24)))))))))))))))))))))))
abbrev b142_1 : X := (.cond (.t 25) (.seq (.reg [6, 7] (.c (.q 6 [] (.mv (.c (.slice none 0 0)))) (.c (.q 7 [] (.mv (.c (.bool false)))) .nil))) .ret) .skip)
def t142_1 := b142_1
theorem u142_1 : vcK P t142_1 k e w = vcK P b142_1 k e w := rfl
abbrev b142_2 : X := (.cond (.t 49) (.seq (.reg [6, 7] (.c (.q 6 [] (.mv (.c (.slice none 0 0)))) (.c (.q 7 [] (.mv (.c (.bool false)))) .nil))) .ret) .skip)
def t142_2 := b142_2
theorem u142_2 : vcK P t142_2 k e w = vcK P b142_2 k e w := rfl
abbrev b142_3 : X := (.reg [2, 3, 4, 8, 9, 13, 33, 50, 51, 52] (.c (.q 56 [] (.mv (.t 13))) (.c (.q 57 [] (.mv (.t 8))) (.c (.q 58 [] (.mv (.t 15))) (.c (.q 59 [] (.mv (.t 15))) (.c (.q 60 [] (.bin .add (.t 59) (.c (.int .i64 1)))) (.c (.q 61 [] (.sub (.t 57) (some (.t 58)) (some (.t 60)))) (.c (.q 62 [] (.bin .add (.t 56) (.t 61))) (.c (.q 13 [] (.mv (.t 62))) .nil)))))))))
def t142_3 := b142_3
theorem u142_3 : vcK P t142_3 k e w = vcK P b142_3 k e w := rfl
abbrev b142_4 : X := (.reg [2, 3, 4, 8, 9, 13, 33, 50, 51, 52] (.c (.q 63 [] (.bin .add (.t 52) (.c (.int .i64 1)))) (.c (.q 52 [] (.mv (.t 63))) .nil)))
def t142_4 := b142_4
theorem u142_4 : vcK P t142_4 k e w = vcK P b142_4 k e w := rfl
abbrev b142_5 : X := (.seq (.blk 3 (.seq (.reg [2, 3, 4, 8, 9, 13, 15, 33, 50, 51, 52] (.c (.q 54 [] (.ia 1 (.t 50) (.t 52))) (.c (.q 55 [] (.ld (.t 54))) (.c (.q 15 [] (.mv (.t 55))) .nil)))) t142_3)) t142_4)
def t142_5 := b142_5
theorem u142_5 : vcK P t142_5 k e w = vcK P b142_5 k e w := rfl
abbrev b142_6 : X := (.seq (.cond (.t 53) .skip (.exit 2)) t142_5)
def t142_6 := b142_6
theorem u142_6 : vcK P t142_6 k e w = vcK P b142_6 k e w := rfl
abbrev b142_7 : X := (.seq (.reg [2, 3, 4, 8, 9, 13, 33, 50, 51, 52, 53] (.c (.q 53 [] (.bin .lss (.t 52) (.t 51))) .nil)) t142_6)
def t142_7 := b142_7
theorem u142_7 : vcK P t142_7 k e w = vcK P b142_7 k e w := rfl
abbrev b142_8 : X := (.blk 2 (.loop [13, 52] [2, 3, 4, 8, 9, 33, 50, 51] t142_7))
def t142_8 := b142_8
theorem u142_8 : vcK P t142_8 k e w = vcK P b142_8 k e w := rfl
abbrev b142_9 : X := (.reg [2, 3, 4, 8, 9, 33] (.c (.q 65 [] (.mv (.t 9))) (.c (.q 66 [] (.mv (.t 8))) (.c (.e (some 67) [] (.bsl 9 1 [(.t 66)])) (.c (.e (some 68) [] (.app 27 9 1 16 [(S [])] 27 (.t 65) (.t 67))) (.c (.q 9 [] (.mv (.t 68))) .nil))))))
def t142_9 := b142_9
theorem u142_9 : vcK P t142_9 k e w = vcK P b142_9 k e w := rfl
abbrev b142_10 : X := (.seq (.reg [2, 3, 4, 8, 9, 33] (.c (.q 64 [] (.mv (.t 13))) (.c (.q 8 [] (.mv (.t 64))) .nil))) t142_9)
def t142_10 := b142_10
theorem u142_10 : vcK P t142_10 k e w = vcK P b142_10 k e w := rfl
abbrev b142_11 : X := (.seq (.seq (.reg [2, 3, 4, 8, 9, 13, 33, 50, 51, 52] (.c (.q 50 [] (.mv (.t 11))) (.c (.q 51 [] (.lens (.t 50))) (.c (.q 52 [] (.mv (.c (.int .i64 0)))) .nil)))) t142_8) t142_10)
def t142_11 := b142_11
theorem u142_11 : vcK P t142_11 k e w = vcK P b142_11 k e w := rfl
abbrev b142_12 : X := (.seq (.reg [2, 3, 4, 8, 9, 11, 13, 33] (.c (.q 13 [] (.mv (.s []))) .nil)) t142_11)
def t142_12 := b142_12
theorem u142_12 : vcK P t142_12 k e w = vcK P b142_12 k e w := rfl
abbrev b142_13 : X := (.seq (.seq (.reg [2, 3, 4, 8, 9, 11, 33, 49] (.c (.q 48 [] (.mv (.t 12))) (.c (.q 49 [] (.not (.t 48))) .nil))) t142_2) t142_12)
def t142_13 := b142_13
theorem u142_13 : vcK P t142_13 k e w = vcK P b142_13 k e w := rfl
abbrev b142_14 : X := (.seq (.drw [2, 3, 4, 8, 9, 11, 12, 33] (.c (.q 38 [] (.lda 3 (.t 3))) (.c (.q 39 [] (.lda 2 (.t 4))) (.c (.q 40 [] (.mv (.t 2))) (.c (.q 41 [] (.mv (.t 10))) (.c (.q 42 [] (.mv (.t 10))) (.c (.q 43 [] (.bin .add (.t 42) (.c (.int .i64 1)))) (.c (.q 44 [] (.sub (.t 40) (some (.t 41)) (some (.t 43)))) (.c (.e (some 45) [] (.call false 145 [(.t 38), (.t 39), (.t 44)])) (.c (.q 37 [] (.mv (.t 45))) (.c (.q 46 [] (.ext 0 (.t 37))) (.c (.q 47 [] (.ext 1 (.t 37))) (.c (.q 11 [] (.mv (.t 46))) (.c (.q 12 [] (.mv (.t 47))) .nil)))))))))))))) t142_13)
def t142_14 := b142_14
theorem u142_14 : vcK P t142_14 k e w = vcK P b142_14 k e w := rfl
abbrev b142_15 : X := (.blk 1 (.seq (.reg [2, 3, 4, 8, 9, 10, 33] (.c (.q 36 [] (.ext 1 (.t 34))) (.c (.q 10 [] (.mv (.t 36))) .nil))) t142_14))
def t142_15 := b142_15
theorem u142_15 : vcK P t142_15 k e w = vcK P b142_15 k e w := rfl
abbrev b142_16 : X := (.seq (.cond (.t 35) .skip (.exit 0)) t142_15)
def t142_16 := b142_16
theorem u142_16 : vcK P t142_16 k e w = vcK P b142_16 k e w := rfl
abbrev b142_17 : X := (.seq (.reg [2, 3, 4, 8, 9, 33, 34, 35] (.c (.e (some 34) [] (.nxt (.t 33))) (.c (.q 35 [] (.ext 0 (.t 34))) .nil))) t142_16)
def t142_17 := b142_17
theorem u142_17 : vcK P t142_17 k e w = vcK P b142_17 k e w := rfl
abbrev b142_18 : X := (.blk 0 (.loop [8, 9] [2, 3, 4, 33] t142_17))
def t142_18 := b142_18
theorem u142_18 : vcK P t142_18 k e w = vcK P b142_18 k e w := rfl
abbrev b142_19 : X := (.seq (.reg [6, 7] (.c (.q 69 [] (.mv (.t 9))) (.c (.q 6 [] (.mv (.t 69))) (.c (.q 7 [] (.mv (.c (.bool true)))) .nil)))) .ret)
def t142_19 := b142_19
theorem u142_19 : vcK P t142_19 k e w = vcK P b142_19 k e w := rfl
abbrev b142_20 : X := (.seq (.seq (.reg [2, 3, 4, 8, 9, 33] (.c (.q 32 [] (.mv (.t 2))) (.c (.e (some 33) [] (.rng (.t 32))) .nil))) t142_18) t142_19)
def t142_20 := b142_20
theorem u142_20 : vcK P t142_20 k e w = vcK P b142_20 k e w := rfl
abbrev b142_21 : X := (.seq (.reg [2, 3, 4, 8, 9] (.c (.q 30 [] (.mv (.t 8))) (.c (.e (some 31) [] (.bsl 9 1 [(.t 30)])) (.c (.q 9 [] (.mv (.t 31))) .nil)))) t142_20)
def t142_21 := b142_21
theorem u142_21 : vcK P t142_21 k e w = vcK P b142_21 k e w := rfl
abbrev b142_22 : X := (.seq (.reg [2, 3, 4, 8] (.c (.q 26 [] (.fa 1 (.t 3))) (.c (.q 27 [] (.ld (.t 26))) (.c (.e (some 28) [] (.call false 165 [(.t 27)])) (.c (.e (some 29) [] (.call false 264 [(.t 28)])) (.c (.q 8 [] (.mv (.t 29))) .nil)))))) t142_21)
def t142_22 := b142_22
theorem u142_22 : vcK P t142_22 k e w = vcK P b142_22 k e w := rfl
abbrev b142_23 : X := (.seq (.seq (.reg [2, 3, 4, 25] (.c (.q 16 [] (.lda 3 (.t 3))) (.c (.e (some 17) [] (.call false 263 [(.t 16)])) (.c (.q 18 [] (.not (.t 17))) (.c (.q 19 [] (.mv (.t 18))) (.c (.q 20 [(19, false)] (.lda 3 (.t 3))) (.c (.q 21 [(19, false)] (.lda 2 (.t 4))) (.c (.q 22 [(19, false)] (.mv (.t 2))) (.c (.e (some 23) [(19, false)] (.call false 163 [(.t 20), (.t 21), (.t 22)])) (.c (.q 24 [(19, false)] (.not (.t 23))) (.c (.q 25 [] (.pick (.t 19) (.c (.bool true)) (.t 24))) .nil))))))))))) t142_1) t142_22)
def t142_23 := b142_23
theorem u142_23 : vcK P t142_23 k e w = vcK P b142_23 k e w := rfl
abbrev b142_0 : X := (.seq (.reg [2, 3, 4] (.c (.e (some 3) [] (.box 41 (.t 0))) (.c (.e (some 4) [] (.box 32 (.t 1))) (.c (.q 6 [] (.mv (.c (.slice none 0 0)))) (.c (.q 7 [] (.mv (.c (.bool false)))) .nil))))) t142_23)
def x_sConductLine := b142_0
theorem u142_0 : vcK P x_sConductLine k e w = vcK P b142_0 k e w := rfl
def r_sConductLine : List XO := [(.mv (.t 6)), (.mv (.t 7))]
theorem c_sConductLine : convF Try.prog [169, 170, 207, 208, 210, 227, 232, 233, 255, 259, 268, 269, 270, 280, 281, 296, 299, 306, 307, 309] Try.f142 [([2, 3, 4], []), ([2, 3, 4, 25], []), ([6, 7], []), ([2, 3, 4, 8], []), ([2, 3, 4, 8, 9], []), ([2, 3, 4, 8, 9, 33], []), ([8, 9], [2, 3, 4, 33]), ([2, 3, 4, 8, 9, 33, 34, 35], []), ([2, 3, 4, 8, 9, 10, 33], []), ([2, 3, 4, 8, 9, 11, 12, 33], []), ([2, 3, 4, 8, 9, 11, 33, 49], []), ([6, 7], []), ([2, 3, 4, 8, 9, 11, 13, 33], []), ([2, 3, 4, 8, 9, 13, 33, 50, 51, 52], []), ([13, 52], [2, 3, 4, 8, 9, 33, 50, 51]), ([2, 3, 4, 8, 9, 13, 33, 50, 51, 52, 53], []), ([2, 3, 4, 8, 9, 13, 15, 33, 50, 51, 52], []), ([2, 3, 4, 8, 9, 13, 33, 50, 51, 52], []), ([2, 3, 4, 8, 9, 13, 33, 50, 51, 52], []), ([2, 3, 4, 8, 9, 33], []), ([2, 3, 4, 8, 9, 33], []), ([6, 7], [])] = some (x_sConductLine, r_sConductLine) := by kernel_rfl
def us_sConductLine := aI @u142_0 (aI @u142_1 (aI @u142_2 (aI @u142_3 (aI @u142_4 (aI @u142_5 (aI @u142_6 (aI @u142_7 (aI @u142_8 (aI @u142_9 (aI @u142_10 (aI @u142_11 (aI @u142_12 (aI @u142_13 (aI @u142_14 (aI @u142_15 (aI @u142_16 (aI @u142_17 (aI @u142_18 (aI @u142_19 (aI @u142_20 (aI @u142_21 (aI @u142_22 @u142_23))))))))))))))))))))))
end

/-- A coursing order moved by a head. -/
def stepO (o h : List UInt8) : List UInt8 := (movesL h).map fun p => o.getD p 0
def ordO (st : Nat) (cs : List (List UInt8)) (b s t : List UInt8) : Nat → List UInt8
  | 0 => wholeL st
  | k + 1 => stepO (ordO st cs b s t k) (headC st cs b s [t.getD k 0])
def okO (st : Nat) (cs : List (List UInt8)) (b s t : List UInt8) (k : Nat) : Prop := ∀ i < k, (headC st cs b s [t.getD i 0]).getD 0 0 = 49
instance (st : Nat) (cs : List (List UInt8)) (b s t : List UInt8) (k : Nat) : Decidable (okO st cs b s t k) := by unfold okO; infer_instance
def lineL (st : Nat) (cs : List (List UInt8)) (b s t : List UInt8) (k : Nat) : List (List UInt8) := (List.range k).map (ordO st cs b s t)
theorem ordO_len {nm : List UInt8} {st : Nat} {cs : List (List UInt8)} {b s : List UInt8} (h : IsMC nm st cs b s) (t : List UInt8) : ∀ k, (ordO st cs b s t k).length = st - 1
  | 0 => by have := h.1.2.1; exact whole_len st (by omega)
  | k + 1 => by
    have hr := headC_row h [t.getD k 0]
    have h8 := h.1.2.1
    rw [ordO, stepO, List.length_map, movesL, List.length_map, course_len _ (by omega), hr.2]
/-- Does the coursing line exist? -/
def LineOk (nm : List UInt8) (st : Int) (cs : List (List UInt8)) (b s t : List UInt8) : Prop := (IsLarge nm st cs ∧ IsMC nm st cs b s ∧ IsTch t) ∧ okO st.toNat cs b s t t.length
instance (nm : List UInt8) (st : Int) (cs : List (List UInt8)) (b s t : List UInt8) : Decidable (LineOk nm st cs b s t) := by unfold LineOk; infer_instance
def lineR (nm : List UInt8) (st : Int) (cs : List (List UInt8)) (b s t : List UInt8) : List (List UInt8) := if LineOk nm st cs b s t then lineL st.toNat cs b s t (t.length + 1) else []
theorem moves_get {h : List UInt8} (hr : IsRow h) (h1 : h.getD 0 0 = 49) {j : Nat} (hj : j < (courseL h).length) : ∃ p, (movesI h).getD j 0 = ((p : Nat) : Int) ∧ p < h.length - 1 ∧ (movesL h).getD j 0 = p := by
  obtain ⟨v, hv2, hvl, hg⟩ := course_get hr h1 j hj
  have h8 := hr.1
  have hp := whole_pos h.length (by omega) v (by omega) hv2 hvl
  rw [whole_len _ (by omega)] at hp
  refine ⟨posC h.length ((courseL h).getD j 0), movesI_get h j hj, by rw [hg]; exact hp, ?_⟩
  rw [movesL, getD_map _ 0 _ _ _ hj]
theorem iConductLine_ok (nm : List UInt8) (st : Int) (v : Value) (cs : List (List UInt8)) (b s t : List UInt8) (hnm : nm.length ≤ 1048576) (hs : ∀ c ∈ cs, c.length ≤ 1048576) (hl : cs.length ≤ 1000000000) (hb : b.length ≤ 1048576 ∧ s.length ≤ 1048576) (ht : t.length ≤ 1000000000) (w : World) (h : Sq fS 1 w v cs) :
    Fn 141 [mV nm st v, kV b s, S t] w (fun r w' => ∃ x, r = .tuple ⟨[x, .bool (decide (LineOk nm st cs b s t))]⟩ ∧ Own fS 1 9 w.heap.size w' x (lineR nm st cs b s t)) := by
  (refine callsV_of mix Try.func141 c_iConductLine ?_; simp only [↓vsd, vsn, gW, qd, qv, ev, pick, argE, zipE, ne_eq, eq_self, forall_const, implies_true, if_true, if_false, reduceIte, reduceCtorEq, Nat.reduceEqDiff, Nat.reduceAdd, Nat.reduceLT, ↓us_iConductLine, r_iConductLine])
  refine m_al ?_
  rintro b1 w1 hb1 hblk1 hx1 hs1
  have h1 : Blk w1 b1 (fM nm st v) 41 := hblk1
  simp only [↓vsd, vsn, gW, qd, qv, ev, pick, argE, zipE, ne_eq, eq_self, forall_const, implies_true, if_true, if_false, reduceIte, reduceCtorEq, Nat.reduceEqDiff, Nat.reduceAdd, Nat.reduceLT, ↓us_iConductLine, r_iConductLine, h1.facts, fMg]
  refine m_al ?_
  rintro b2 w2 hb2 hblk2 hx2 hs2
  have h2 : Blk w2 b2 (fQ b s) 32 := hblk2
  have h12 := h1.ext hx2
  have hx12 := hx1.trans hx2
  simp only [↓vsd, vsn, gW, qd, qv, ev, pick, argE, zipE, ne_eq, eq_self, forall_const, implies_true, if_true, if_false, reduceIte, reduceCtorEq, Nat.reduceEqDiff, Nat.reduceAdd, Nat.reduceLT, ↓us_iConductLine, r_iConductLine, h12.facts, h2.facts, fMg, fQg]
  have hno : ¬ LineOk nm st cs b s t → ∀ w', ∃ x, Value.tuple ⟨[.slice none 0 0, .bool false]⟩ = .tuple ⟨[x, .bool (decide (LineOk nm st cs b s t))]⟩ ∧ Own fS 1 9 w.heap.size w' x (lineR nm st cs b s t) := fun hn w' =>
    ⟨_, by rw [decide_eq_false hn], by rw [lineR, if_neg hn]; exact Own.nil fS_len⟩
  refine m_call (iisLarge_ok nm st v cs hnm hs hl _ (h.ext hx12)) ?_
  rintro _ w3 hx3 rfl
  have hx13 := hx12.trans hx3
  have h13 := h12.ext hx3
  have h23 := h2.ext hx3
  by_cases hL : IsLarge nm st cs
  · simp only [↓vsd, vsn, gW, qd, qv, ev, pick, argE, zipE, ne_eq, eq_self, forall_const, implies_true, if_true, if_false, reduceIte, reduceCtorEq, Nat.reduceEqDiff, Nat.reduceAdd, Nat.reduceLT, ↓us_iConductLine, r_iConductLine, hL, h13.facts, h23.facts, fMg, fQg]
    refine m_call (igoodFor_ok nm st v cs b s t hnm hs hl hb ht _ (h.ext hx13)) ?_
    rintro _ w4 hx4 rfl
    have hx14 := hx13.trans hx4
    have h14 := h13.ext hx4
    have h24 := h23.ext hx4
    by_cases hM : IsMC nm st cs b s ∧ IsTch t
    · obtain ⟨n, rfl⟩ : ∃ n : Nat, st = n := ⟨st.toNat, by have := hM.1.1.2.1; omega⟩
      have h8 := hM.1.1.2.1
      have hn4 := hL.2
      have ht60 := hM.2.1
      simp only [↓vsd, vsn, gW, qd, qv, ev, pick, argE, zipE, ne_eq, eq_self, forall_const, implies_true, if_true, if_false, reduceIte, reduceCtorEq, Nat.reduceEqDiff, Nat.reduceAdd, Nat.reduceLT, ↓us_iConductLine, r_iConductLine, hM, h14.facts, h24.facts, fMg, fQg]
      refine m_call (irounds_ok n (by omega) _) ?_
      rintro _ w5 hx5 rfl
      simp only [↓vsd, vsn, gW, qd, qv, ev, pick, argE, zipE, ne_eq, eq_self, forall_const, implies_true, if_true, if_false, reduceIte, reduceCtorEq, Nat.reduceEqDiff, Nat.reduceAdd, Nat.reduceLT, ↓us_iConductLine, r_iConductLine]
      refine m_call (icourseOf_ok (roundsL n) (by rw [roundsL_len]; omega) (by rw [roundsL_len]; omega) _) ?_
      rintro _ w6 hx6 rfl
      have hx16 := (hx14.trans hx5).trans hx6
      simp only [↓vsd, vsn, gW, qd, qv, ev, pick, argE, zipE, ne_eq, eq_self, forall_const, implies_true, if_true, if_false, reduceIte, reduceCtorEq, Nat.reduceEqDiff, Nat.reduceAdd, Nat.reduceLT, ↓us_iConductLine, r_iConductLine]
      refine m_bsl (one_el rfl) ?_
      rintro b7 w7 hb7 hblk7 hx7 hs7
      simp only [↓vsd, vsn, gW, qd, qv, ev, pick, argE, zipE, ne_eq, eq_self, forall_const, implies_true, if_true, if_false, reduceIte, reduceCtorEq, Nat.reduceEqDiff, Nat.reduceAdd, Nat.reduceLT, ↓us_iConductLine, r_iConductLine]
      have hx46 := hx5.trans hx6
      have h16 := h14.ext hx46
      have h26 := h24.ext hx46
      refine m_upto t.length (fun i vs w' => ∃ x, vs = [S (ordO n cs b s t i), x, .int .i64 i] ∧ okO n cs b s t i ∧ Own fS 1 9 w6.heap.size w' x (lineL n cs b s t (i + 1)) ∧ Ext w6 w') ⟨_, rfl, fun j hj => absurd hj (Nat.not_lt_zero j), (Own.one fS_len hblk7 rfl (by omega)).to rfl, hx7⟩ ?_
      rintro i vs w8 hi ⟨x, rfl, hok, ho8, hx8⟩
      have h18 := h16.ext hx8
      have h28 := h26.ext hx8
      have hx18 := hx16.trans hx8
      have hbl := ordO_len hM.1 t i
      by_cases hlt : i < t.length
      · have hltI : (i : Int) < t.length := by omega
        have hltJ : ¬ (t.length : Int) ≤ i := by omega
        have hs1 := sub_one t i hlt
        simp only [↓vsd, vsn, gW, qd, qv, ev, pick, argE, zipE, ne_eq, eq_self, forall_const, implies_true, if_true, if_false, reduceIte, reduceCtorEq, Nat.reduceEqDiff, Nat.reduceAdd, Nat.reduceLT, ↓us_iConductLine, r_iConductLine, h18.facts, h28.facts, fMg, fQg, hltI, hltJ]
        rw [hs1]
        refine ⟨inR_i64 (by omega), by omega, m_call (icallMoves_ok nm n v cs b s [t.getD i 0] hM.1 (by omega) _ (h.ext (dr hx18))) ?_⟩
        rintro _ w9 hx9 ⟨y, rfl, hoy⟩
        have hx19 := hx18.trans (ud hx9)
        by_cases hd : (headC n cs b s [t.getD i 0]).getD 0 0 = 49
        · obtain ⟨hr, hrl⟩ := headC_row hM.1 [t.getD i 0]
          have hst : ordO n cs b s t (i + 1) = stepO (ordO n cs b s t i) (headC n cs b s [t.getD i 0]) := rfl
          have hok' : okO n cs b s t (i + 1) := fun j hj => by
            rcases Nat.lt_succ_iff_lt_or_eq.1 hj with h | rfl
            · exact hok j h
            · exact hd
          rw [if_pos hd] at hoy
          simp only [↓vsd, vsn, gW, qd, qv, ev, pick, argE, zipE, ne_eq, eq_self, forall_const, implies_true, if_true, if_false, reduceIte, reduceCtorEq, Nat.reduceEqDiff, Nat.reduceAdd, Nat.reduceLT, ↓us_iConductLine, r_iConductLine, hd, hoy.sq.facts]
          generalize hh : headC n cs b s [t.getD i 0] = h' at *
          have hml := movesI_len h' (by omega)
          have hcl := course_len h' (by omega)
          generalize ho : ordO n cs b s t i = o at *
          refine m_upto (movesI h').length (fun j vs w' => vs = [S (((movesL h').take j).map fun p => o.getD p 0), .int .i64 j] ∧ Ext w9 w') ⟨rfl, Ext.refl _⟩ ?_
          rintro j vs wa hj ⟨rfl, hxa⟩
          have hqa := hoy.sq.ext hxa
          by_cases hltj : j < (movesI h').length
          · have hltjI : (j : Int) < (movesI h').length := by omega
            have hltjJ : ¬ ((movesI h').length : Int) ≤ j := by omega
            obtain ⟨p, hp, hpl, hpm⟩ := moves_get hr hd (j := j) (by omega)
            have hso := sub_one o p (by omega)
            have hts := map_take_suc (fun p => o.getD p 0) 0 (movesL h') j (by rw [movesL, List.length_map]; omega)
            rw [hpm] at hts
            simp only [↓vsd, vsn, gW, qd, qv, ev, pick, argE, zipE, ne_eq, eq_self, forall_const, implies_true, if_true, if_false, reduceIte, reduceCtorEq, Nat.reduceEqDiff, Nat.reduceAdd, Nat.reduceLT, ↓us_iConductLine, r_iConductLine, hqa.facts, hltjI, hltjJ, hqa.at1 0 hltj, hp]
            rw [hso]
            have hol : (((movesL h').take j).map fun p => o.getD p 0).length ≤ j := by rw [List.length_map, List.length_take]; omega
            refine ⟨by omega, inR_i64 (by omega), ⟨by omega, by omega, by omega⟩, by simp only [List.length_cons, List.length_nil]; omega, inR_i64 (by omega), UpTo.next hltj ⟨by rw [hts]; rfl, hxa⟩⟩
          · obtain rfl : j = (movesI h').length := by omega
            have hltjI : ¬ ((movesI h').length : Int) < (movesI h').length := by omega
            simp only [↓vsd, vsn, gW, qd, qv, ev, pick, argE, zipE, ne_eq, eq_self, forall_const, implies_true, if_true, if_false, reduceIte, reduceCtorEq, Nat.reduceEqDiff, Nat.reduceAdd, Nat.reduceLT, ↓us_iConductLine, r_iConductLine, hltjI]
            have hte : ((movesL h').take (movesI h').length).map (fun p => o.getD p 0) = stepO o h' := by
              rw [List.take_of_length_le (by rw [movesI, List.length_map]; exact Nat.le_refl _)]; rfl
            rw [hte, ← hst]
            have hst2 : (ordO n cs b s t (i + 1)).length = n - 1 := ordO_len hM.1 t (i + 1)
            refine m_bsl (one_el rfl) ?_
            rintro bb wb hbb hblkb hxb hsb
            simp only [↓vsd, vsn, gW, qd, qv, ev, pick, argE, zipE, ne_eq, eq_self, forall_const, implies_true, if_true, if_false, reduceIte, reduceCtorEq, Nat.reduceEqDiff, Nat.reduceAdd, Nat.reduceLT, ↓us_iConductLine, r_iConductLine]
            have hx1b := (hx19.trans hxa).trans hxb
            have hll : (lineL n cs b s t (i + 1)).length = i + 1 := by simp [lineL]
            have ho9 := ((ho8.ext (ud hx9)).ext hxa).ext hxb
            refine m_app ho9 (Sq.one fS_len hblkb rfl) fS_one (by decide) (by rw [hll]; simp; omega) (by decide) (((hx8.trans (ud hx9)).trans hxa).trans hxb).size ?_
            rintro x5 w5 ho5 hg5
            simp only [↓vsd, vsn, gW, qd, qv, ev, pick, argE, zipE, ne_eq, eq_self, forall_const, implies_true, if_true, if_false, reduceIte, reduceCtorEq, Nat.reduceEqDiff, Nat.reduceAdd, Nat.reduceLT, ↓us_iConductLine, r_iConductLine]
            have hx6b := ((hx8.trans (ud hx9)).trans hxa).trans hxb
            have hx6w : Ext w6 w5 := ho9.grown hx6b (Nat.le_refl _) hg5
            exact ⟨inR_i64 (by omega), UpTo.next hlt ⟨x5, rfl, hok', ho5.to (by simp [lineL, List.range_succ]), hx6w⟩⟩
        · have hnk : ¬ LineOk nm n cs b s t := fun hh => hd (hh.2 i hlt)
          simp only [↓vsd, vsn, gW, qd, qv, ev, pick, argE, zipE, ne_eq, eq_self, forall_const, implies_true, if_true, if_false, reduceIte, reduceCtorEq, Nat.reduceEqDiff, Nat.reduceAdd, Nat.reduceLT, ↓us_iConductLine, r_iConductLine, hd]
          exact ⟨hx19, hno hnk _⟩
      · obtain rfl : i = t.length := by omega
        have hltI : ¬ (t.length : Int) < t.length := by omega
        have hyes : LineOk nm n cs b s t := ⟨⟨hL, hM.1, hM.2⟩, hok⟩
        simp only [↓vsd, vsn, gW, qd, qv, ev, pick, argE, zipE, ne_eq, eq_self, forall_const, implies_true, if_true, if_false, reduceIte, reduceCtorEq, Nat.reduceEqDiff, Nat.reduceAdd, Nat.reduceLT, ↓us_iConductLine, r_iConductLine, hltI]
        rw [decide_eq_true hyes, lineR, if_pos hyes]
        exact ⟨hx18, _, rfl, ho8.mono hx16.size⟩
    · simp only [↓vsd, vsn, gW, qd, qv, ev, pick, argE, zipE, ne_eq, eq_self, forall_const, implies_true, if_true, if_false, reduceIte, reduceCtorEq, Nat.reduceEqDiff, Nat.reduceAdd, Nat.reduceLT, ↓us_iConductLine, r_iConductLine, hM]
      exact ⟨hx14, hno (fun hh => hM ⟨hh.1.2.1, hh.1.2.2⟩) _⟩
  · simp only [↓vsd, vsn, gW, qd, qv, ev, pick, argE, zipE, ne_eq, eq_self, forall_const, implies_true, if_true, if_false, reduceIte, reduceCtorEq, Nat.reduceEqDiff, Nat.reduceAdd, Nat.reduceLT, ↓us_iConductLine, r_iConductLine, hL]
    exact ⟨hx13, hno (fun hh => hL hh.1.1) _⟩
theorem sConductLine_ok (nm : List UInt8) (st : Int) (v : Value) (cs : List (List UInt8)) (b s t : List UInt8) (hnm : nm.length ≤ 1048576) (hs : ∀ c ∈ cs, c.length ≤ 1048576) (hl : cs.length ≤ 1000000000) (hb : b.length ≤ 1048576 ∧ s.length ≤ 1048576) (ht : t.length ≤ 1000000000) (w : World) (h : Sq fS 1 w v cs) :
    Fn 142 [mV nm st v, kV b s, S t] w (fun r w' => ∃ x, r = .tuple ⟨[x, .bool (decide (LineOk nm st cs b s t))]⟩ ∧ Own fS 1 9 w.heap.size w' x (lineR nm st cs b s t)) := by
  (refine callsV_of mix Try.func142 c_sConductLine ?_; simp only [↓vsd, vsn, gW, qd, qv, ev, pick, argE, zipE, ne_eq, eq_self, forall_const, implies_true, if_true, if_false, reduceIte, reduceCtorEq, Nat.reduceEqDiff, Nat.reduceAdd, Nat.reduceLT, ↓us_sConductLine, r_sConductLine])
  refine m_al ?_
  rintro b1 w1 hb1 hblk1 hx1 hs1
  have h1 : Blk w1 b1 (fM nm st v) 41 := hblk1
  simp only [↓vsd, vsn, gW, qd, qv, ev, pick, argE, zipE, ne_eq, eq_self, forall_const, implies_true, if_true, if_false, reduceIte, reduceCtorEq, Nat.reduceEqDiff, Nat.reduceAdd, Nat.reduceLT, ↓us_sConductLine, r_sConductLine, h1.facts, fMg]
  refine m_al ?_
  rintro b2 w2 hb2 hblk2 hx2 hs2
  have h2 : Blk w2 b2 (fQ b s) 32 := hblk2
  have h12 := h1.ext hx2
  have hx12 := hx1.trans hx2
  simp only [↓vsd, vsn, gW, qd, qv, ev, pick, argE, zipE, ne_eq, eq_self, forall_const, implies_true, if_true, if_false, reduceIte, reduceCtorEq, Nat.reduceEqDiff, Nat.reduceAdd, Nat.reduceLT, ↓us_sConductLine, r_sConductLine, h12.facts, h2.facts, fMg, fQg]
  have hno : ¬ LineOk nm st cs b s t → ∀ w', ∃ x, Value.tuple ⟨[.slice none 0 0, .bool false]⟩ = .tuple ⟨[x, .bool (decide (LineOk nm st cs b s t))]⟩ ∧ Own fS 1 9 w.heap.size w' x (lineR nm st cs b s t) := fun hn w' =>
    ⟨_, by rw [decide_eq_false hn], by rw [lineR, if_neg hn]; exact Own.nil fS_len⟩
  refine m_call (sl15Good_ok nm st v cs hnm hs hl _ (h.ext hx12)) ?_
  rintro _ w3 hx3 rfl
  have hx13 := hx12.trans hx3
  have h13 := h12.ext hx3
  have h23 := h2.ext hx3
  by_cases hL : IsLarge nm st cs
  · simp only [↓vsd, vsn, gW, qd, qv, ev, pick, argE, zipE, ne_eq, eq_self, forall_const, implies_true, if_true, if_false, reduceIte, reduceCtorEq, Nat.reduceEqDiff, Nat.reduceAdd, Nat.reduceLT, ↓us_sConductLine, r_sConductLine, hL, h13.facts, h23.facts, fMg, fQg]
    refine m_call (sl9Asked_ok nm st v cs b s t hnm hs hl hb ht _ (h.ext hx13)) ?_
    rintro _ w4 hx4 rfl
    have hx14 := hx13.trans hx4
    have h14 := h13.ext hx4
    have h24 := h23.ext hx4
    by_cases hM : IsMC nm st cs b s ∧ IsTch t
    · obtain ⟨n, rfl⟩ : ∃ n : Nat, st = n := ⟨st.toNat, by have := hM.1.1.2.1; omega⟩
      have h8 := hM.1.1.2.1
      have hn4 := hL.2
      have ht60 := hM.2.1
      simp only [↓vsd, vsn, gW, qd, qv, ev, pick, argE, zipE, ne_eq, eq_self, forall_const, implies_true, if_true, if_false, reduceIte, reduceCtorEq, Nat.reduceEqDiff, Nat.reduceAdd, Nat.reduceLT, ↓us_sConductLine, r_sConductLine, hM, h14.facts, h24.facts, fMg, fQg]
      refine m_call (sl1Rounds_ok n (by omega) _) ?_
      rintro _ w5 hx5 rfl
      simp only [↓vsd, vsn, gW, qd, qv, ev, pick, argE, zipE, ne_eq, eq_self, forall_const, implies_true, if_true, if_false, reduceIte, reduceCtorEq, Nat.reduceEqDiff, Nat.reduceAdd, Nat.reduceLT, ↓us_sConductLine, r_sConductLine]
      refine m_call (sl15Course_ok (roundsL n) (by rw [roundsL_len]; omega) (by rw [roundsL_len]; omega) _) ?_
      rintro _ w6 hx6 rfl
      have hx16 := (hx14.trans hx5).trans hx6
      simp only [↓vsd, vsn, gW, qd, qv, ev, pick, argE, zipE, ne_eq, eq_self, forall_const, implies_true, if_true, if_false, reduceIte, reduceCtorEq, Nat.reduceEqDiff, Nat.reduceAdd, Nat.reduceLT, ↓us_sConductLine, r_sConductLine]
      refine m_bsl (one_el rfl) ?_
      rintro b7 w7 hb7 hblk7 hx7 hs7
      simp only [↓vsd, vsn, gW, qd, qv, ev, pick, argE, zipE, ne_eq, eq_self, forall_const, implies_true, if_true, if_false, reduceIte, reduceCtorEq, Nat.reduceEqDiff, Nat.reduceAdd, Nat.reduceLT, ↓us_sConductLine, r_sConductLine]
      refine m_rng ?_
      rintro b8 w8 hb8 hit8 hx8 hs8
      simp only [↓vsd, vsn, gW, qd, qv, ev, pick, argE, zipE, ne_eq, eq_self, forall_const, implies_true, if_true, if_false, reduceIte, reduceCtorEq, Nat.reduceEqDiff, Nat.reduceAdd, Nat.reduceLT, ↓us_sConductLine, r_sConductLine]
      have hx46 := hx5.trans hx6
      have h16 := h14.ext hx46
      have h26 := h24.ext hx46
      have h128 := tch_low hM.2
      have ho7 := Own.one (B := w6.heap.size) fS_len hblk7 rfl (by omega)
      refine m_upto t.length (fun i vs w' => ∃ x, vs = [S (ordO n cs b s t i), x] ∧ okO n cs b s t i ∧ Own fS 1 9 w6.heap.size w' x (lineL n cs b s t (i + 1)) ∧ Ext w6 w' ∧ Itr w' b8 t i ∧ Away x b8) ⟨_, rfl, fun j hj => absurd hj (Nat.not_lt_zero j), (ho7.ext hx8).to rfl, hx7.trans hx8, hit8, ho7.away (by omega)⟩ ?_
      rintro i vs w9 hi ⟨x, rfl, hok, ho9, hx9, hit9, haw9⟩
      have hx19 := hx16.trans hx9
      have hbl := ordO_len hM.1 t i
      simp only [↓vsd, vsn, gW, qd, qv, ev, pick, argE, zipE, ne_eq, eq_self, forall_const, implies_true, if_true, if_false, reduceIte, reduceCtorEq, Nat.reduceEqDiff, Nat.reduceAdd, Nat.reduceLT, ↓us_sConductLine, r_sConductLine]
      refine m_nxt hit9 h128 ?_ ?_
      · intro hlt wa hita hua
        have hxa : Ext w6 wa := hua.below hx9 (by have := hx7.size; omega)
        have hoa := ho9.upd hua haw9
        have h1a := h16.ext hxa
        have h2a := h26.ext hxa
        have hx1a := hx16.trans hxa
        have hs1 := sub_one t i hlt
        simp only [↓vsd, vsn, gW, qd, qv, ev, pick, argE, zipE, ne_eq, eq_self, forall_const, implies_true, if_true, if_false, reduceIte, reduceCtorEq, Nat.reduceEqDiff, Nat.reduceAdd, Nat.reduceLT, ↓us_sConductLine, r_sConductLine, h1a.facts, h2a.facts, fMg, fQg]
        rw [hs1]
        refine ⟨inR_i64 (by omega), by omega, m_call (sCallMoves_ok nm n v cs b s [t.getD i 0] hnm hs hl hb _ (h.ext (dr hx1a))) ?_⟩
        rintro _ wb hxb ⟨y, rfl, hoy⟩
        have hxb := ud hxb
        have hmv : moveV nm n cs b s [t.getD i 0] = ((headC n cs b s [t.getD i 0]).getD 0 0 = 49) := propext ⟨fun h => h.2, fun h => ⟨⟨hL, hM.1, hM.2.2 _ (getD_mem 0 hlt)⟩, h⟩⟩
        simp only [hmv, Int.toNat_natCast] at hoy
        by_cases hd : (headC n cs b s [t.getD i 0]).getD 0 0 = 49
        · obtain ⟨hr, hrl⟩ := headC_row hM.1 [t.getD i 0]
          have hst : ordO n cs b s t (i + 1) = stepO (ordO n cs b s t i) (headC n cs b s [t.getD i 0]) := rfl
          have hok' : okO n cs b s t (i + 1) := fun j hj => by
            rcases Nat.lt_succ_iff_lt_or_eq.1 hj with h | rfl
            · exact hok j h
            · exact hd
          rw [if_pos hd] at hoy
          simp only [↓vsd, vsn, gW, qd, qv, ev, pick, argE, zipE, ne_eq, eq_self, forall_const, implies_true, if_true, if_false, reduceIte, reduceCtorEq, Nat.reduceEqDiff, Nat.reduceAdd, Nat.reduceLT, ↓us_sConductLine, r_sConductLine, hmv, hd, hoy.sq.facts]
          generalize hh : headC n cs b s [t.getD i 0] = h' at *
          have hml := movesI_len h' (by omega)
          have hcl := course_len h' (by omega)
          generalize ho : ordO n cs b s t i = o at *
          refine m_upto (movesI h').length (fun j vs w' => vs = [S (((movesL h').take j).map fun p => o.getD p 0), .int .i64 j] ∧ Ext wb w') ⟨rfl, Ext.refl _⟩ ?_
          rintro j vs wc hj ⟨rfl, hxc⟩
          have hqc := hoy.sq.ext hxc
          by_cases hltj : j < (movesI h').length
          · have hltjI : (j : Int) < (movesI h').length := by omega
            have hltjJ : ¬ ((movesI h').length : Int) ≤ j := by omega
            obtain ⟨p, hp, hpl, hpm⟩ := moves_get hr hd (j := j) (by omega)
            have hso := sub_one o p (by omega)
            have hts := map_take_suc (fun p => o.getD p 0) 0 (movesL h') j (by rw [movesL, List.length_map]; omega)
            rw [hpm] at hts
            simp only [↓vsd, vsn, gW, qd, qv, ev, pick, argE, zipE, ne_eq, eq_self, forall_const, implies_true, if_true, if_false, reduceIte, reduceCtorEq, Nat.reduceEqDiff, Nat.reduceAdd, Nat.reduceLT, ↓us_sConductLine, r_sConductLine, hqc.facts, hltjI, hltjJ, hqc.at1 0 hltj, hp]
            rw [hso]
            have hol : (((movesL h').take j).map fun p => o.getD p 0).length ≤ j := by rw [List.length_map, List.length_take]; omega
            refine ⟨by omega, inR_i64 (by omega), ⟨by omega, by omega, by omega⟩, by simp only [List.length_cons, List.length_nil]; omega, inR_i64 (by omega), UpTo.next hltj ⟨by rw [hts]; rfl, hxc⟩⟩
          · obtain rfl : j = (movesI h').length := by omega
            have hltjI : ¬ ((movesI h').length : Int) < (movesI h').length := by omega
            simp only [↓vsd, vsn, gW, qd, qv, ev, pick, argE, zipE, ne_eq, eq_self, forall_const, implies_true, if_true, if_false, reduceIte, reduceCtorEq, Nat.reduceEqDiff, Nat.reduceAdd, Nat.reduceLT, ↓us_sConductLine, r_sConductLine, hltjI]
            have hte : ((movesL h').take (movesI h').length).map (fun p => o.getD p 0) = stepO o h' := by
              rw [List.take_of_length_le (by rw [movesI, List.length_map]; exact Nat.le_refl _)]; rfl
            rw [hte, ← hst]
            have hst2 : (ordO n cs b s t (i + 1)).length = n - 1 := ordO_len hM.1 t (i + 1)
            refine m_bsl (one_el rfl) ?_
            rintro bb wd hbb hblkb hxd hsb
            simp only [↓vsd, vsn, gW, qd, qv, ev, pick, argE, zipE, ne_eq, eq_self, forall_const, implies_true, if_true, if_false, reduceIte, reduceCtorEq, Nat.reduceEqDiff, Nat.reduceAdd, Nat.reduceLT, ↓us_sConductLine, r_sConductLine]
            have hll : (lineL n cs b s t (i + 1)).length = i + 1 := by simp [lineL]
            have hxbd := (hxb.trans hxc).trans hxd
            have hod := hoa.ext hxbd
            have hx6d := hxa.trans hxbd
            have hitd := hita.ext hxbd
            refine m_app2 hod (Sq.one fS_len hblkb rfl) fS_one (by decide) (by rw [hll]; simp; omega) (by decide) hx6d.size ?_
            rintro x5 we hoe hge hne
            simp only [↓vsd, vsn, gW, qd, qv, ev, pick, argE, zipE, ne_eq, eq_self, forall_const, implies_true, if_true, if_false, reduceIte, reduceCtorEq, Nat.reduceEqDiff, Nat.reduceAdd, Nat.reduceLT, ↓us_sConductLine, r_sConductLine]
            have hx6w : Ext w6 we := hod.grown hx6d (Nat.le_refl _) hge
            exact UpTo.next hlt ⟨x5, rfl, hok', hoe.to (by simp [lineL, List.range_succ]), hx6w, hitd.grown hge haw9, haw9.next hitd.lt hne⟩
        · have hnk : ¬ LineOk nm n cs b s t := fun hh => hd (hh.2 i hlt)
          simp only [↓vsd, vsn, gW, qd, qv, ev, pick, argE, zipE, ne_eq, eq_self, forall_const, implies_true, if_true, if_false, reduceIte, reduceCtorEq, Nat.reduceEqDiff, Nat.reduceAdd, Nat.reduceLT, ↓us_sConductLine, r_sConductLine, hmv, hd]
          exact ⟨hx1a.trans hxb, hno hnk _⟩
      · intro hge
        have hie : i = t.length := by omega
        subst hie
        have hyes : LineOk nm n cs b s t := ⟨⟨hL, hM.1, hM.2⟩, hok⟩
        simp only [↓vsd, vsn, gW, qd, qv, ev, pick, argE, zipE, ne_eq, eq_self, forall_const, implies_true, if_true, if_false, reduceIte, reduceCtorEq, Nat.reduceEqDiff, Nat.reduceAdd, Nat.reduceLT, ↓us_sConductLine, r_sConductLine]
        rw [decide_eq_true hyes, lineR, if_pos hyes]
        exact ⟨hx19, _, rfl, ho9.mono hx16.size⟩
    · simp only [↓vsd, vsn, gW, qd, qv, ev, pick, argE, zipE, ne_eq, eq_self, forall_const, implies_true, if_true, if_false, reduceIte, reduceCtorEq, Nat.reduceEqDiff, Nat.reduceAdd, Nat.reduceLT, ↓us_sConductLine, r_sConductLine, hM]
      exact ⟨hx14, hno (fun hh => hM ⟨hh.1.2.1, hh.1.2.2⟩) _⟩
  · simp only [↓vsd, vsn, gW, qd, qv, ev, pick, argE, zipE, ne_eq, eq_self, forall_const, implies_true, if_true, if_false, reduceIte, reduceCtorEq, Nat.reduceEqDiff, Nat.reduceAdd, Nat.reduceLT, ↓us_sConductLine, r_sConductLine, hL]
    exact ⟨hx13, hno (fun hh => hL hh.1.1) _⟩
end Go.Proofs.Ytpnopboffalfnaa
