/-
  Place notation: the reference's reader.
  Conditions: none.
-/
import Derived.Test.YtfklonhjgkahdaaA97
set_option linter.unusedSimpArgs false
set_option linter.unusedVariables false
set_option linter.defProp false
namespace Go.Proofs.Ytfklonhjgkahdaa
open Go Go.RowKit
section
variable (P : Program) (k : KT) (e : Env) (w : World)
abbrev b85_1 : X := (.cond (.t 82) .skip (.exit 0))
def t85_1 := b85_1
theorem u85_1 : vcK P t85_1 k e w = vcK P b85_1 k e w := rfl
abbrev b85_2 : X := (.blk 1 (.reg [0, 2] (.c (.q 83 [] (.mv (.t 0))) (.c (.q 84 [] (.nil (.t 83))) (.c (.q 85 [] (.fa 2 (.t 84))) (.c (.q 86 [] (.ld (.t 85))) (.c (.q 87 [] (.bin .add (.t 86) (.c (.int .i64 1)))) (.c (.q 88 [] (.nil (.t 83))) (.c (.q 89 [] (.fa 2 (.t 88))) (.c (.e none [] (.st 1 (.t 89) (.t 87))) .nil))))))))))
def t85_2 := b85_2
theorem u85_2 : vcK P t85_2 k e w = vcK P b85_2 k e w := rfl
abbrev b85_3 : X := (.seq (.seq (.drw [0, 2, 82] (.c (.q 49 [] (.mv (.t 0))) (.c (.q 50 [] (.nil (.t 49))) (.c (.q 51 [] (.fa 2 (.t 50))) (.c (.q 52 [] (.ld (.t 51))) (.c (.q 53 [] (.mv (.t 0))) (.c (.q 54 [] (.nil (.t 53))) (.c (.q 55 [] (.fa 1 (.t 54))) (.c (.q 56 [] (.ld (.t 55))) (.c (.q 57 [] (.len (.t 56))) (.c (.q 58 [] (.bin .lss (.t 52) (.t 57))) (.c (.q 59 [] (.mv (.t 58))) (.c (.q 60 [(59, true)] (.mv (.t 0))) (.c (.q 61 [(59, true)] (.nil (.t 60))) (.c (.q 62 [(59, true)] (.fa 1 (.t 61))) (.c (.q 63 [(59, true)] (.ld (.t 62))) (.c (.q 64 [(59, true)] (.mv (.t 0))) (.c (.q 65 [(59, true)] (.nil (.t 64))) (.c (.q 66 [(59, true)] (.fa 2 (.t 65))) (.c (.q 67 [(59, true)] (.ld (.t 66))) (.c (.q 68 [(59, true)] (.idx (.t 63) (.t 67))) (.c (.q 69 [(59, true)] (.bin .geq (.t 68) (.c (.int .u8 48)))) (.c (.q 70 [] (.pick (.t 59) (.t 69) (.c (.bool false)))) (.c (.q 71 [] (.mv (.t 70))) (.c (.q 72 [(71, true)] (.mv (.t 0))) (.c (.q 73 [(71, true)] (.nil (.t 72))) (.c (.q 74 [(71, true)] (.fa 1 (.t 73))) (.c (.q 75 [(71, true)] (.ld (.t 74))) (.c (.q 76 [(71, true)] (.mv (.t 0))) (.c (.q 77 [(71, true)] (.nil (.t 76))) (.c (.q 78 [(71, true)] (.fa 2 (.t 77))) (.c (.q 79 [(71, true)] (.ld (.t 78))) (.c (.q 80 [(71, true)] (.idx (.t 75) (.t 79))) (.c (.q 81 [(71, true)] (.bin .leq (.t 80) (.c (.int .u8 57)))) (.c (.q 82 [] (.pick (.t 71) (.t 81) (.c (.bool false)))) .nil))))))))))))))))))))))))))))))))))) t85_1) t85_2)
def t85_3 := b85_3
theorem u85_3 : vcK P t85_3 k e w = vcK P b85_3 k e w := rfl
abbrev b85_4 : X := (.cond (.t 41) (.reg [0, 2] (.c (.q 42 [] (.mv (.t 0))) (.c (.q 43 [] (.nil (.t 42))) (.c (.q 44 [] (.fa 2 (.t 43))) (.c (.q 45 [] (.ld (.t 44))) (.c (.q 46 [] (.bin .add (.t 45) (.c (.int .i64 1)))) (.c (.q 47 [] (.nil (.t 42))) (.c (.q 48 [] (.fa 2 (.t 47))) (.c (.e none [] (.st 1 (.t 48) (.t 46))) .nil))))))))) (.blk 0 (.loop [] [0, 2] t85_3)))
def t85_4 := b85_4
theorem u85_4 : vcK P t85_4 k e w = vcK P b85_4 k e w := rfl
abbrev b85_5 : X := (.cond (.t 114) (.seq (.reg [] (.c (.q 115 [] (.mv (.t 0))) (.c (.q 116 [] (.mv (.t 2))) (.c (.q 117 [] (.nil (.t 115))) (.c (.q 118 [] (.fa 4 (.t 117))) (.c (.e none [] (.st 1 (.t 118) (.t 116))) .nil)))))) .ret) .skip)
def t85_5 := b85_5
theorem u85_5 : vcK P t85_5 k e w = vcK P b85_5 k e w := rfl
abbrev b85_6 : X := (.reg [] (.c (.q 119 [] (.mv (.t 0))) (.c (.q 120 [] (.mv (.t 0))) (.c (.q 121 [] (.nil (.t 120))) (.c (.q 122 [] (.fa 3 (.t 121))) (.c (.q 123 [] (.ld (.t 122))) (.c (.q 124 [] (.mv (.t 3))) (.c (.e (some 125) [] (.bsl 9 1 [(.t 124)])) (.c (.e (some 126) [] (.app 24 9 1 16 [(S [])] 24 (.t 123) (.t 125))) (.c (.q 127 [] (.nil (.t 119))) (.c (.q 128 [] (.fa 3 (.t 127))) (.c (.e none [] (.st 1 (.t 128) (.t 126))) .nil))))))))))))
def t85_6 := b85_6
theorem u85_6 : vcK P t85_6 k e w = vcK P b85_6 k e w := rfl
abbrev b85_7 : X := (.seq (.seq (.reg [0, 2, 3, 114] (.c (.q 105 [] (.mv (.t 2))) (.c (.q 106 [] (.mv (.t 0))) (.c (.q 107 [] (.nil (.t 106))) (.c (.q 108 [] (.fa 2 (.t 107))) (.c (.q 109 [] (.ld (.t 108))) (.c (.q 110 [] (.bin .eql (.t 105) (.t 109))) (.c (.q 111 [] (.mv (.t 110))) (.c (.q 112 [(111, false)] (.mv (.t 3))) (.c (.q 113 [(111, false)] (.bin .eql (.t 112) (.s []))) (.c (.q 114 [] (.pick (.t 111) (.c (.bool true)) (.t 113))) .nil))))))))))) t85_5) t85_6)
def t85_7 := b85_7
theorem u85_7 : vcK P t85_7 k e w = vcK P b85_7 k e w := rfl
abbrev b85_8 : X := (.seq (.drw [0, 2, 3] (.c (.q 90 [] (.mv (.t 0))) (.c (.q 91 [] (.nil (.t 90))) (.c (.q 92 [] (.fa 0 (.t 91))) (.c (.q 93 [] (.ld (.t 92))) (.c (.q 94 [] (.mv (.t 0))) (.c (.q 95 [] (.nil (.t 94))) (.c (.q 96 [] (.fa 1 (.t 95))) (.c (.q 97 [] (.ld (.t 96))) (.c (.q 98 [] (.mv (.t 2))) (.c (.q 99 [] (.mv (.t 0))) (.c (.q 100 [] (.nil (.t 99))) (.c (.q 101 [] (.fa 2 (.t 100))) (.c (.q 102 [] (.ld (.t 101))) (.c (.q 103 [] (.sub (.t 97) (some (.t 98)) (some (.t 102)))) (.c (.e (some 104) [] (.call false 46 [(.t 93), (.t 103)])) (.c (.q 3 [] (.mv (.t 104))) .nil))))))))))))))))) t85_7)
def t85_8 := b85_8
theorem u85_8 : vcK P t85_8 k e w = vcK P b85_8 k e w := rfl
abbrev b85_9 : X := (.seq (.seq (.drw [0, 2, 41] (.c (.q 8 [] (.mv (.t 0))) (.c (.q 9 [] (.nil (.t 8))) (.c (.q 10 [] (.fa 2 (.t 9))) (.c (.q 11 [] (.ld (.t 10))) (.c (.q 12 [] (.mv (.t 0))) (.c (.q 13 [] (.nil (.t 12))) (.c (.q 14 [] (.fa 1 (.t 13))) (.c (.q 15 [] (.ld (.t 14))) (.c (.q 16 [] (.len (.t 15))) (.c (.q 17 [] (.bin .lss (.t 11) (.t 16))) (.c (.q 18 [] (.mv (.t 17))) (.c (.q 19 [(18, true)] (.mv (.t 0))) (.c (.q 20 [(18, true)] (.nil (.t 19))) (.c (.q 21 [(18, true)] (.fa 1 (.t 20))) (.c (.q 22 [(18, true)] (.ld (.t 21))) (.c (.q 23 [(18, true)] (.mv (.t 0))) (.c (.q 24 [(18, true)] (.nil (.t 23))) (.c (.q 25 [(18, true)] (.fa 2 (.t 24))) (.c (.q 26 [(18, true)] (.ld (.t 25))) (.c (.q 27 [(18, true)] (.idx (.t 22) (.t 26))) (.c (.q 28 [(18, true)] (.bin .eql (.t 27) (.c (.int .u8 45)))) (.c (.q 29 [(18, true)] (.mv (.t 28))) (.c (.q 30 [(29, false), (18, true)] (.mv (.t 0))) (.c (.q 31 [(29, false), (18, true)] (.nil (.t 30))) (.c (.q 32 [(29, false), (18, true)] (.fa 1 (.t 31))) (.c (.q 33 [(29, false), (18, true)] (.ld (.t 32))) (.c (.q 34 [(29, false), (18, true)] (.mv (.t 0))) (.c (.q 35 [(29, false), (18, true)] (.nil (.t 34))) (.c (.q 36 [(29, false), (18, true)] (.fa 2 (.t 35))) (.c (.q 37 [(29, false), (18, true)] (.ld (.t 36))) (.c (.q 38 [(29, false), (18, true)] (.idx (.t 33) (.t 37))) (.c (.q 39 [(29, false), (18, true)] (.bin .eql (.t 38) (.c (.int .u8 120)))) (.c (.q 40 [(18, true)] (.pick (.t 29) (.c (.bool true)) (.t 39))) (.c (.q 41 [] (.pick (.t 18) (.t 40) (.c (.bool false)))) .nil))))))))))))))))))))))))))))))))))) t85_4) t85_8)
def t85_9 := b85_9
theorem u85_9 : vcK P t85_9 k e w = vcK P b85_9 k e w := rfl
abbrev b85_0 : X := (.seq (.reg [0, 2] (.c (.q 4 [] (.mv (.t 0))) (.c (.q 5 [] (.nil (.t 4))) (.c (.q 6 [] (.fa 2 (.t 5))) (.c (.q 7 [] (.ld (.t 6))) (.c (.q 2 [] (.mv (.t 7))) .nil)))))) t85_9)
def x_sl3R_word := b85_0
theorem u85_0 : vcK P x_sl3R_word k e w = vcK P b85_0 k e w := rfl
def r_sl3R_word : List XO := []
theorem c_sl3R_word : convF Try.prog [38, 39, 41, 42, 49, 54, 55, 57, 58, 59, 79, 81, 84, 87, 139] Try.f85 [([0, 2], []), ([0, 2, 41], []), ([0, 2], []), ([], [0, 2]), ([0, 2, 82], []), ([0, 2], []), ([0, 2, 3], []), ([0, 2, 3, 114], []), ([], []), ([], [])] = some (x_sl3R_word, r_sl3R_word) := by kernel_rfl
def us_sl3R_word :=  (aI (aI (aI @u85_0 @u85_1) (aI @u85_2 (aI @u85_3 @u85_4))) (aI (aI @u85_5 @u85_6) (aI @u85_7 (aI @u85_8 @u85_9))))
abbrev b56_1 : X := (.cond (.t 34) .skip (.exit 0))
def t56_1 := b56_1
theorem u56_1 : vcK P t56_1 k e w = vcK P b56_1 k e w := rfl
abbrev b56_2 : X := (.cond (.t 64) (.seq (.reg [] (.c (.q 79 [] (.mv (.t 0))) (.c (.q 80 [] (.mv (.t 0))) (.c (.q 81 [] (.nil (.t 80))) (.c (.q 82 [] (.fa 2 (.t 81))) (.c (.q 83 [] (.ld (.t 82))) (.c (.q 84 [] (.nil (.t 79))) (.c (.q 85 [] (.fa 4 (.t 84))) (.c (.e none [] (.st 1 (.t 85) (.t 83))) .nil))))))))) .ret) .skip)
def t56_2 := b56_2
theorem u56_2 : vcK P t56_2 k e w = vcK P b56_2 k e w := rfl
abbrev b56_3 : X := (.cond (.t 54) (.reg [0] (.c (.q 57 [] (.mv (.t 0))) (.c (.q 58 [] (.nil (.t 57))) (.c (.q 59 [] (.fa 2 (.t 58))) (.c (.q 60 [] (.ld (.t 59))) (.c (.q 61 [] (.bin .add (.t 60) (.c (.int .i64 1)))) (.c (.q 62 [] (.nil (.t 57))) (.c (.q 63 [] (.fa 2 (.t 62))) (.c (.e none [] (.st 1 (.t 63) (.t 61))) .nil))))))))) (.seq (.reg [0, 64] (.c (.q 65 [] (.mv (.t 3))) (.c (.q 66 [] (.bin .neq (.t 65) (.c (.int .u8 45)))) (.c (.q 67 [] (.mv (.t 66))) (.c (.q 68 [(67, true)] (.mv (.t 3))) (.c (.q 69 [(67, true)] (.bin .neq (.t 68) (.c (.int .u8 120)))) (.c (.q 70 [] (.pick (.t 67) (.t 69) (.c (.bool false)))) (.c (.q 71 [] (.mv (.t 70))) (.c (.q 72 [(71, true)] (.mv (.t 2))) (.c (.q 73 [(71, true)] (.bin .neq (.t 72) (.c (.int .u8 45)))) (.c (.q 74 [] (.pick (.t 71) (.t 73) (.c (.bool false)))) (.c (.q 75 [] (.mv (.t 74))) (.c (.q 76 [(75, true)] (.mv (.t 2))) (.c (.q 77 [(75, true)] (.bin .neq (.t 76) (.c (.int .u8 120)))) (.c (.q 78 [] (.pick (.t 75) (.t 77) (.c (.bool false)))) (.c (.q 64 [] (.mv (.t 78))) .nil)))))))))))))))) t56_2))
def t56_3 := b56_3
theorem u56_3 : vcK P t56_3 k e w = vcK P b56_3 k e w := rfl
abbrev b56_4 : X := (.reg [0] (.c (.q 86 [] (.mv (.t 0))) (.c (.e (some 87) [] (.call false 85 [(.t 86)])) .nil)))
def t56_4 := b56_4
theorem u56_4 : vcK P t56_4 k e w = vcK P b56_4 k e w := rfl
abbrev b56_5 : X := (.seq (.blk 2 (.seq (.reg [0, 2, 3, 54] (.c (.q 55 [] (.mv (.t 3))) (.c (.q 56 [] (.bin .eql (.t 55) (.c (.int .u8 46)))) (.c (.q 54 [] (.mv (.t 56))) .nil)))) t56_3)) t56_4)
def t56_5 := b56_5
theorem u56_5 : vcK P t56_5 k e w = vcK P b56_5 k e w := rfl
abbrev b56_6 : X := (.seq (.drw [0, 2, 3] (.c (.q 45 [] (.mv (.t 0))) (.c (.q 46 [] (.nil (.t 45))) (.c (.q 47 [] (.fa 1 (.t 46))) (.c (.q 48 [] (.ld (.t 47))) (.c (.q 49 [] (.mv (.t 0))) (.c (.q 50 [] (.nil (.t 49))) (.c (.q 51 [] (.fa 2 (.t 50))) (.c (.q 52 [] (.ld (.t 51))) (.c (.q 53 [] (.idx (.t 48) (.t 52))) (.c (.q 3 [] (.mv (.t 53))) .nil))))))))))) t56_5)
def t56_6 := b56_6
theorem u56_6 : vcK P t56_6 k e w = vcK P b56_6 k e w := rfl
abbrev b56_7 : X := (.blk 1 (.seq (.drw [0, 2] (.c (.q 35 [] (.mv (.t 0))) (.c (.q 36 [] (.nil (.t 35))) (.c (.q 37 [] (.fa 1 (.t 36))) (.c (.q 38 [] (.ld (.t 37))) (.c (.q 39 [] (.mv (.t 0))) (.c (.q 40 [] (.nil (.t 39))) (.c (.q 41 [] (.fa 2 (.t 40))) (.c (.q 42 [] (.ld (.t 41))) (.c (.q 43 [] (.bin .sub (.t 42) (.c (.int .i64 1)))) (.c (.q 44 [] (.idx (.t 38) (.t 43))) (.c (.q 2 [] (.mv (.t 44))) .nil)))))))))))) t56_6))
def t56_7 := b56_7
theorem u56_7 : vcK P t56_7 k e w = vcK P b56_7 k e w := rfl
abbrev b56_8 : X := (.seq (.seq (.drw [0, 34] (.c (.q 6 [] (.mv (.t 0))) (.c (.q 7 [] (.nil (.t 6))) (.c (.q 8 [] (.fa 4 (.t 7))) (.c (.q 9 [] (.ld (.t 8))) (.c (.q 10 [] (.bin .lss (.t 9) (.c (.int .i64 0)))) (.c (.q 11 [] (.mv (.t 10))) (.c (.q 12 [(11, true)] (.mv (.t 0))) (.c (.q 13 [(11, true)] (.nil (.t 12))) (.c (.q 14 [(11, true)] (.fa 2 (.t 13))) (.c (.q 15 [(11, true)] (.ld (.t 14))) (.c (.q 16 [(11, true)] (.mv (.t 0))) (.c (.q 17 [(11, true)] (.nil (.t 16))) (.c (.q 18 [(11, true)] (.fa 1 (.t 17))) (.c (.q 19 [(11, true)] (.ld (.t 18))) (.c (.q 20 [(11, true)] (.len (.t 19))) (.c (.q 21 [(11, true)] (.bin .lss (.t 15) (.t 20))) (.c (.q 22 [] (.pick (.t 11) (.t 21) (.c (.bool false)))) (.c (.q 23 [] (.mv (.t 22))) (.c (.q 24 [(23, true)] (.mv (.t 0))) (.c (.q 25 [(23, true)] (.nil (.t 24))) (.c (.q 26 [(23, true)] (.fa 1 (.t 25))) (.c (.q 27 [(23, true)] (.ld (.t 26))) (.c (.q 28 [(23, true)] (.mv (.t 0))) (.c (.q 29 [(23, true)] (.nil (.t 28))) (.c (.q 30 [(23, true)] (.fa 2 (.t 29))) (.c (.q 31 [(23, true)] (.ld (.t 30))) (.c (.q 32 [(23, true)] (.idx (.t 27) (.t 31))) (.c (.q 33 [(23, true)] (.bin .neq (.t 32) (.c (.int .u8 44)))) (.c (.q 34 [] (.pick (.t 23) (.t 33) (.c (.bool false)))) .nil)))))))))))))))))))))))))))))) t56_1) t56_7)
def t56_8 := b56_8
theorem u56_8 : vcK P t56_8 k e w = vcK P b56_8 k e w := rfl
abbrev b56_9 : X := (.blk 0 (.loop [] [0] t56_8))
def t56_9 := b56_9
theorem u56_9 : vcK P t56_9 k e w = vcK P b56_9 k e w := rfl
abbrev b56_0 : X := (.seq (.reg [0] (.c (.q 4 [] (.mv (.t 0))) (.c (.e (some 5) [] (.call false 85 [(.t 4)])) .nil))) t56_9)
def x_sl3R_block := b56_0
theorem u56_0 : vcK P x_sl3R_block k e w = vcK P b56_0 k e w := rfl
def r_sl3R_block : List XO := []
theorem c_sl3R_block : convF Try.prog [38, 39, 41, 42, 49, 54, 55, 57, 58, 59, 79, 81, 84, 87, 139] Try.f56 [([0], []), ([], [0]), ([0, 34], []), ([0, 2], []), ([0, 2, 3], []), ([0, 2, 3, 54], []), ([0], []), ([0, 64], []), ([], []), ([0], [])] = some (x_sl3R_block, r_sl3R_block) := by kernel_rfl
def us_sl3R_block :=  (aI (aI (aI @u56_0 @u56_1) (aI @u56_2 (aI @u56_3 @u56_4))) (aI (aI @u56_5 @u56_6) (aI @u56_7 (aI @u56_8 @u56_9))))
abbrev b28_1 : X := (.cond (.t 15) (.seq (.reg [4, 5, 6, 7] (.c (.q 4 [] (.mv (.c (.slice none 0 0)))) (.c (.q 5 [] (.mv (.c (.int .i64 0)))) (.c (.q 6 [] (.mv (.c (.int .i64 0)))) (.c (.q 7 [] (.mv (.c (.bool false)))) .nil))))) .ret) .skip)
def t28_1 := b28_1
theorem u28_1 : vcK P t28_1 k e w = vcK P b28_1 k e w := rfl
abbrev b28_2 : X := (.cond (.t 22) (.seq (.reg [4, 5, 6, 7] (.c (.q 4 [] (.mv (.c (.slice none 0 0)))) (.c (.q 5 [] (.mv (.c (.int .i64 1)))) (.c (.q 6 [] (.mv (.c (.int .i64 0)))) (.c (.q 7 [] (.mv (.c (.bool false)))) .nil))))) .ret) .skip)
def t28_2 := b28_2
theorem u28_2 : vcK P t28_2 k e w = vcK P b28_2 k e w := rfl
abbrev b28_3 : X := (.cond (.t 36) (.seq (.drw [4, 5, 6, 7] (.c (.q 37 [] (.mv (.t 8))) (.c (.q 38 [] (.nil (.t 37))) (.c (.q 39 [] (.fa 4 (.t 38))) (.c (.q 40 [] (.ld (.t 39))) (.c (.q 4 [] (.mv (.c (.slice none 0 0)))) (.c (.q 5 [] (.mv (.c (.int .i64 2)))) (.c (.q 6 [] (.mv (.t 40))) (.c (.q 7 [] (.mv (.c (.bool false)))) .nil))))))))) .ret) .skip)
def t28_3 := b28_3
theorem u28_3 : vcK P t28_3 k e w = vcK P b28_3 k e w := rfl
abbrev b28_4 : X := (.cond (.t 54) (.exit 0) .skip)
def t28_4 := b28_4
theorem u28_4 : vcK P t28_4 k e w = vcK P b28_4 k e w := rfl
abbrev b28_5 : X := (.reg [1, 8, 9] (.c (.q 55 [] (.mv (.t 8))) (.c (.q 56 [] (.nil (.t 55))) (.c (.q 57 [] (.fa 2 (.t 56))) (.c (.q 58 [] (.ld (.t 57))) (.c (.q 59 [] (.bin .add (.t 58) (.c (.int .i64 1)))) (.c (.q 60 [] (.nil (.t 55))) (.c (.q 61 [] (.fa 2 (.t 60))) (.c (.e none [] (.st 1 (.t 61) (.t 59))) .nil)))))))))
def t28_5 := b28_5
theorem u28_5 : vcK P t28_5 k e w = vcK P b28_5 k e w := rfl
abbrev b28_6 : X := (.seq (.seq (.reg [1, 8, 9, 54] (.c (.q 48 [] (.mv (.t 8))) (.c (.q 49 [] (.nil (.t 48))) (.c (.q 50 [] (.fa 2 (.t 49))) (.c (.q 51 [] (.ld (.t 50))) (.c (.q 52 [] (.mv (.t 1))) (.c (.q 53 [] (.len (.t 52))) (.c (.q 54 [] (.bin .eql (.t 51) (.t 53))) .nil)))))))) t28_4) t28_5)
def t28_6 := b28_6
theorem u28_6 : vcK P t28_6 k e w = vcK P b28_6 k e w := rfl
abbrev b28_7 : X := (.seq (.reg [1, 8, 9] (.c (.q 41 [] (.mv (.t 9))) (.c (.q 42 [] (.mv (.t 8))) (.c (.q 43 [] (.nil (.t 42))) (.c (.q 44 [] (.fa 3 (.t 43))) (.c (.q 45 [] (.ld (.t 44))) (.c (.e (some 46) [] (.bsl 24 1 [(.t 45)])) (.c (.e (some 47) [] (.app 76 24 1 24 [(.slice none 0 0)] 76 (.t 41) (.t 46))) (.c (.q 9 [] (.mv (.t 47))) .nil))))))))) t28_6)
def t28_7 := b28_7
theorem u28_7 : vcK P t28_7 k e w = vcK P b28_7 k e w := rfl
abbrev b28_8 : X := (.seq (.seq (.reg [1, 8, 9, 36] (.c (.q 32 [] (.mv (.t 8))) (.c (.q 33 [] (.nil (.t 32))) (.c (.q 34 [] (.fa 4 (.t 33))) (.c (.q 35 [] (.ld (.t 34))) (.c (.q 36 [] (.bin .geq (.t 35) (.c (.int .i64 0)))) .nil)))))) t28_3) t28_7)
def t28_8 := b28_8
theorem u28_8 : vcK P t28_8 k e w = vcK P b28_8 k e w := rfl
abbrev b28_9 : X := (.seq (.reg [1, 8, 9] (.c (.q 30 [] (.mv (.t 8))) (.c (.e (some 31) [] (.call false 56 [(.t 30)])) .nil))) t28_8)
def t28_9 := b28_9
theorem u28_9 : vcK P t28_9 k e w = vcK P b28_9 k e w := rfl
abbrev b28_10 : X := (.blk 1 (.seq (.reg [1, 8, 9] (.c (.q 27 [] (.mv (.t 8))) (.c (.q 28 [] (.nil (.t 27))) (.c (.q 29 [] (.fa 3 (.t 28))) (.c (.e none [] (.st 1 (.t 29) (.c (.slice none 0 0)))) .nil))))) t28_9))
def t28_10 := b28_10
theorem u28_10 : vcK P t28_10 k e w = vcK P b28_10 k e w := rfl
abbrev b28_11 : X := (.cond (.t 70) (.reg [9, 10, 12, 62, 63, 64] (.c (.q 71 [] (.mv (.t 12))) (.c (.e (some 72) [] (.call false 40 [(.t 71)])) (.c (.q 12 [] (.mv (.t 72))) .nil)))) .skip)
def t28_11 := b28_11
theorem u28_11 : vcK P t28_11 k e w = vcK P b28_11 k e w := rfl
abbrev b28_12 : X := (.reg [9, 10, 62, 63, 64] (.c (.q 73 [] (.mv (.t 10))) (.c (.q 74 [] (.mv (.t 12))) (.c (.e (some 75) [] (.app 24 9 1 16 [(S [])] 24 (.t 73) (.t 74))) (.c (.q 10 [] (.mv (.t 75))) .nil)))))
def t28_12 := b28_12
theorem u28_12 : vcK P t28_12 k e w = vcK P b28_12 k e w := rfl
abbrev b28_13 : X := (.seq (.seq (.reg [9, 10, 12, 62, 63, 64, 70] (.c (.q 68 [] (.mv (.t 9))) (.c (.q 69 [] (.lens (.t 68))) (.c (.q 70 [] (.bin .gtr (.t 69) (.c (.int .i64 1)))) .nil)))) t28_11) t28_12)
def t28_13 := b28_13
theorem u28_13 : vcK P t28_13 k e w = vcK P b28_13 k e w := rfl
abbrev b28_14 : X := (.reg [9, 10, 62, 63, 64] (.c (.q 76 [] (.bin .add (.t 64) (.c (.int .i64 1)))) (.c (.q 64 [] (.mv (.t 76))) .nil)))
def t28_14 := b28_14
theorem u28_14 : vcK P t28_14 k e w = vcK P b28_14 k e w := rfl
abbrev b28_15 : X := (.seq (.blk 3 (.seq (.reg [9, 10, 12, 62, 63, 64] (.c (.q 66 [] (.ia 1 (.t 62) (.t 64))) (.c (.q 67 [] (.ld (.t 66))) (.c (.q 12 [] (.mv (.t 67))) .nil)))) t28_13)) t28_14)
def t28_15 := b28_15
theorem u28_15 : vcK P t28_15 k e w = vcK P b28_15 k e w := rfl
abbrev b28_16 : X := (.seq (.cond (.t 65) .skip (.exit 2)) t28_15)
def t28_16 := b28_16
theorem u28_16 : vcK P t28_16 k e w = vcK P b28_16 k e w := rfl
abbrev b28_17 : X := (.seq (.reg [9, 10, 62, 63, 64, 65] (.c (.q 65 [] (.bin .lss (.t 64) (.t 63))) .nil)) t28_16)
def t28_17 := b28_17
theorem u28_17 : vcK P t28_17 k e w = vcK P b28_17 k e w := rfl
abbrev b28_18 : X := (.blk 2 (.loop [10, 64] [9, 62, 63] t28_17))
def t28_18 := b28_18
theorem u28_18 : vcK P t28_18 k e w = vcK P b28_18 k e w := rfl
abbrev b28_19 : X := (.cond (.t 84) (.seq (.reg [4, 5, 6, 7] (.c (.q 4 [] (.mv (.c (.slice none 0 0)))) (.c (.q 5 [] (.mv (.c (.int .i64 3)))) (.c (.q 6 [] (.mv (.c (.int .i64 0)))) (.c (.q 7 [] (.mv (.c (.bool false)))) .nil))))) .ret) .skip)
def t28_19 := b28_19
theorem u28_19 : vcK P t28_19 k e w = vcK P b28_19 k e w := rfl
abbrev b28_20 : X := (.seq (.reg [4, 5, 6, 7] (.c (.q 85 [] (.mv (.t 10))) (.c (.q 4 [] (.mv (.t 85))) (.c (.q 5 [] (.mv (.c (.int .i64 0)))) (.c (.q 6 [] (.mv (.c (.int .i64 0)))) (.c (.q 7 [] (.mv (.c (.bool true)))) .nil)))))) .ret)
def t28_20 := b28_20
theorem u28_20 : vcK P t28_20 k e w = vcK P b28_20 k e w := rfl
abbrev b28_21 : X := (.seq (.seq (.reg [10, 84] (.c (.q 77 [] (.mv (.t 9))) (.c (.q 78 [] (.lens (.t 77))) (.c (.q 79 [] (.bin .gtr (.t 78) (.c (.int .i64 4)))) (.c (.q 80 [] (.mv (.t 79))) (.c (.q 81 [(80, false)] (.mv (.t 10))) (.c (.q 82 [(80, false)] (.lens (.t 81))) (.c (.q 83 [(80, false)] (.bin .gtr (.t 82) (.c (.int .i64 40)))) (.c (.q 84 [] (.pick (.t 80) (.c (.bool true)) (.t 83))) .nil))))))))) t28_19) t28_20)
def t28_21 := b28_21
theorem u28_21 : vcK P t28_21 k e w = vcK P b28_21 k e w := rfl
abbrev b28_22 : X := (.seq (.seq (.reg [9, 10, 62, 63, 64] (.c (.q 62 [] (.mv (.t 9))) (.c (.q 63 [] (.lens (.t 62))) (.c (.q 64 [] (.mv (.c (.int .i64 0)))) .nil)))) t28_18) t28_21)
def t28_22 := b28_22
theorem u28_22 : vcK P t28_22 k e w = vcK P b28_22 k e w := rfl
abbrev b28_23 : X := (.seq (.reg [9, 10] (.c (.q 10 [] (.mv (.c (.slice none 0 0)))) .nil)) t28_22)
def t28_23 := b28_23
theorem u28_23 : vcK P t28_23 k e w = vcK P b28_23 k e w := rfl
abbrev b28_24 : X := (.seq (.blk 0 (.loop [9] [1, 8] t28_10)) t28_23)
def t28_24 := b28_24
theorem u28_24 : vcK P t28_24 k e w = vcK P b28_24 k e w := rfl
abbrev b28_25 : X := (.seq (.reg [1, 8, 9] (.c (.q 9 [] (.mv (.c (.slice none 0 0)))) .nil)) t28_24)
def t28_25 := b28_25
theorem u28_25 : vcK P t28_25 k e w = vcK P b28_25 k e w := rfl
abbrev b28_26 : X := (.seq (.reg [1, 8] (.c (.q 23 [] (.mv (.t 0))) (.c (.q 24 [] (.mv (.t 1))) (.c (.q 25 [] (.bld [(.int .i64 0), (S []), (.int .i64 0), (.slice none 0 0), (.int .i64 0)] [(0, 0, (.t 23)), (1, 0, (.t 24)), (4, 0, (.c (.int .i64 (-1))))])) (.c (.e (some 26) [] (.box 82 (.t 25))) (.c (.q 8 [] (.mv (.t 26))) .nil)))))) t28_25)
def t28_26 := b28_26
theorem u28_26 : vcK P t28_26 k e w = vcK P b28_26 k e w := rfl
abbrev b28_27 : X := (.seq (.seq (.reg [0, 1, 22] (.c (.q 16 [] (.mv (.t 1))) (.c (.q 17 [] (.bin .eql (.t 16) (.s []))) (.c (.q 18 [] (.mv (.t 17))) (.c (.q 19 [(18, false)] (.mv (.t 1))) (.c (.q 20 [(18, false)] (.len (.t 19))) (.c (.q 21 [(18, false)] (.bin .gtr (.t 20) (.c (.int .i64 200)))) (.c (.q 22 [] (.pick (.t 18) (.c (.bool true)) (.t 21))) .nil)))))))) t28_2) t28_26)
def t28_27 := b28_27
theorem u28_27 : vcK P t28_27 k e w = vcK P b28_27 k e w := rfl
abbrev b28_28 : X := (.seq (.seq (.reg [0, 1, 15] (.c (.q 13 [] (.mv (.t 0))) (.c (.e (some 14) [] (.call false 45 [(.t 13), (.c (.int .i64 3)), (.c (.int .i64 8))])) (.c (.q 15 [] (.not (.t 14))) .nil)))) t28_1) t28_27)
def t28_28 := b28_28
theorem u28_28 : vcK P t28_28 k e w = vcK P b28_28 k e w := rfl
abbrev b28_0 : X := (.seq (.reg [0, 1] (.c (.q 4 [] (.mv (.c (.slice none 0 0)))) (.c (.q 5 [] (.mv (.c (.int .i64 0)))) (.c (.q 6 [] (.mv (.c (.int .i64 0)))) (.c (.q 7 [] (.mv (.c (.bool false)))) .nil))))) t28_28)
def x_sReadNotation := b28_0
theorem u28_0 : vcK P x_sReadNotation k e w = vcK P b28_0 k e w := rfl
def r_sReadNotation : List XO := [(.mv (.t 4)), (.mv (.t 5)), (.mv (.t 6)), (.mv (.t 7))]
theorem c_sReadNotation : convF Try.prog [38, 39, 41, 42, 49, 54, 55, 57, 58, 59, 79, 81, 84, 87, 139] Try.f28 [([0, 1], []), ([0, 1, 15], []), ([4, 5, 6, 7], []), ([0, 1, 22], []), ([4, 5, 6, 7], []), ([1, 8], []), ([1, 8, 9], []), ([9], [1, 8]), ([1, 8, 9], []), ([1, 8, 9], []), ([1, 8, 9, 36], []), ([4, 5, 6, 7], []), ([1, 8, 9], []), ([1, 8, 9, 54], []), ([1, 8, 9], []), ([9, 10], []), ([9, 10, 62, 63, 64], []), ([10, 64], [9, 62, 63]), ([9, 10, 62, 63, 64, 65], []), ([9, 10, 12, 62, 63, 64], []), ([9, 10, 12, 62, 63, 64, 70], []), ([9, 10, 12, 62, 63, 64], []), ([9, 10, 62, 63, 64], []), ([9, 10, 62, 63, 64], []), ([10, 84], []), ([4, 5, 6, 7], []), ([4, 5, 6, 7], [])] = some (x_sReadNotation, r_sReadNotation) := by kernel_rfl
def us_sReadNotation :=  (aI (aI (aI (aI @u28_0 (aI @u28_1 @u28_2)) (aI (aI @u28_3 @u28_4) (aI @u28_5 @u28_6))) (aI (aI @u28_7 (aI @u28_8 @u28_9)) (aI (aI @u28_10 @u28_11) (aI @u28_12 @u28_13)))) (aI (aI (aI @u28_14 (aI @u28_15 @u28_16)) (aI (aI @u28_17 @u28_18) (aI @u28_19 @u28_20))) (aI (aI (aI @u28_21 @u28_22) (aI @u28_23 @u28_24)) (aI (aI @u28_25 @u28_26) (aI @u28_27 @u28_28)))))
abbrev b20_1 : X := (.cond (.t 19) (.seq (.reg [4, 5] (.c (.q 4 [] (.mv (.c (.int .i64 0)))) (.c (.q 5 [] (.mv (.c (.bool false)))) .nil))) .ret) .skip)
def t20_1 := b20_1
theorem u20_1 : vcK P t20_1 k e w = vcK P b20_1 k e w := rfl
abbrev b20_2 : X := (.seq (.reg [4, 5] (.c (.q 20 [] (.mv (.t 6))) (.c (.q 21 [] (.lens (.t 20))) (.c (.q 4 [] (.mv (.t 21))) (.c (.q 5 [] (.mv (.c (.bool true)))) .nil))))) .ret)
def t20_2 := b20_2
theorem u20_2 : vcK P t20_2 k e w = vcK P b20_2 k e w := rfl
abbrev b20_3 : X := (.seq (.seq (.reg [6, 19] (.c (.q 18 [] (.mv (.t 9))) (.c (.q 19 [] (.not (.t 18))) .nil))) t20_1) t20_2)
def t20_3 := b20_3
theorem u20_3 : vcK P t20_3 k e w = vcK P b20_3 k e w := rfl
abbrev b20_4 : X := (.seq (.reg [6, 9] (.c (.q 11 [] (.mv (.t 0))) (.c (.q 12 [] (.mv (.t 1))) (.c (.e (some 13) [] (.call false 28 [(.t 11), (.t 12)])) (.c (.q 10 [] (.mv (.t 13))) (.c (.q 14 [] (.ext 0 (.t 10))) (.c (.q 15 [] (.ext 1 (.t 10))) (.c (.q 16 [] (.ext 2 (.t 10))) (.c (.q 17 [] (.ext 3 (.t 10))) (.c (.q 6 [] (.mv (.t 14))) (.c (.q 7 [] (.mv (.t 15))) (.c (.q 8 [] (.mv (.t 16))) (.c (.q 9 [] (.mv (.t 17))) .nil))))))))))))) t20_3)
def t20_4 := b20_4
theorem u20_4 : vcK P t20_4 k e w = vcK P b20_4 k e w := rfl
abbrev b20_0 : X := (.seq (.reg [0, 1] (.c (.q 4 [] (.mv (.c (.int .i64 0)))) (.c (.q 5 [] (.mv (.c (.bool false)))) .nil))) t20_4)
def x_sCountChanges := b20_0
theorem u20_0 : vcK P x_sCountChanges k e w = vcK P b20_0 k e w := rfl
def r_sCountChanges : List XO := [(.mv (.t 4)), (.mv (.t 5))]
theorem c_sCountChanges : convF Try.prog [38, 39, 41, 42, 49, 54, 55, 57, 58, 59, 79, 81, 84, 87, 139] Try.f20 [([0, 1], []), ([6, 9], []), ([6, 19], []), ([4, 5], []), ([4, 5], [])] = some (x_sCountChanges, r_sCountChanges) := by kernel_rfl
def us_sCountChanges :=  (aI (aI @u20_0 @u20_1) (aI @u20_2 (aI @u20_3 @u20_4)))
end

/-- A reader's cells. -/
def fR3 (n : Int) (s : Bs) (a : Int) (o : Value) (bad : Int) : List Value := [.int .i64 n, S s, .int .i64 a, o, .int .i64 bad]
theorem fR3g (n : Int) (s : Bs) (a : Int) (o : Value) (bad : Int) : (∀ u, (fR3 n s a o bad).getD 0 u = .int .i64 n) ∧ (∀ u, (fR3 n s a o bad).getD 1 u = S s) ∧ (∀ u, (fR3 n s a o bad).getD 2 u = .int .i64 a) ∧ (∀ u, (fR3 n s a o bad).getD 3 u = o) ∧ (∀ u, (fR3 n s a o bad).getD 4 u = .int .i64 bad) ∧ (fR3 n s a o bad).length = 5 := ⟨fun _ => rfl, fun _ => rfl, fun _ => rfl, fun _ => rfl, fun _ => rfl, rfl⟩
/-- What the reading of a word leaves, since the world w0. -/
def WdOut (n : Nat) (s : Bs) (a b : Nat) (acc : List Bs) (w0 : World) (w' : World) : Prop :=
  w0.grownBy w' (some b) ∧ ((wE s a = a ∨ tidyL n ((s.take (wE s a)).drop a) = []) → ∃ o', Blk w' b (fR3 n s (wE s a : Nat) o' (a : Nat)) 82) ∧ (¬ (wE s a = a ∨ tidyL n ((s.take (wE s a)).drop a) = []) → ∃ o', Blk w' b (fR3 n s (wE s a : Nat) o' (-1)) 82 ∧ Own fS 1 9 w0.heap.size w' o' (acc ++ [tidyL n ((s.take (wE s a)).drop a)]))
theorem sl3R_word_ok (n : Nat) (s : Bs) (a b : Nat) (o : Value) (acc : List Bs) (hn : 3 ≤ n ∧ n ≤ 8) (hs : s.length ≤ 200) (ha : a ≤ s.length) (hal : acc.length ≤ 1000) (w0 w : World) (hb0 : b < w0.heap.size) (hg0 : w0.grownBy w (some b)) (ho : Own fS 1 9 w0.heap.size w o acc) (hb : Blk w b (fR3 n s a o (-1)) 82) : CallsV Try.prog 85 [.pointer (some ⟨b, 0, none⟩)] w (fun _ w' => WdOut n s a b acc w0 w') := by
  (refine callsV_of mix Try.func85 c_sl3R_word ?_; simp only [↓vsd, vsn, gW, qd, qv, ev, pick, argE, zipE, ne_eq, eq_self, forall_const, implies_true, if_true, if_false, reduceIte, reduceCtorEq, Nat.reduceEqDiff, Nat.reduceAdd, Nat.reduceLT, ↓us_sl3R_word, r_sl3R_word])
  simp only [↓vsd, vsn, gW, qd, qv, ev, pick, argE, zipE, ne_eq, eq_self, forall_const, implies_true, if_true, if_false, reduceIte, reduceCtorEq, Nat.reduceEqDiff, Nat.reduceAdd, Nat.reduceLT, ↓us_sl3R_word, r_sl3R_word, hb.facts, fR3g]
  refine ⟨fun _ => ⟨by omega, by omega⟩, fun _ => ⟨by omega, by omega⟩, fun hxx => ⟨inR_i64 (by omega), m_st (dr95 hb) rfl (by decide : 2 + 1 ≤ 5) (fI_one _) ?_⟩, fun hxx => ?_⟩
  · rintro w2 hb2' hu2
    have hb2 : Blk w2 b (fR3 n s (a + 1 : Nat) o (-1)) 82 := hb2'
    have hg2 := gtr95 (gdr95 hg0) hu2.grown
    have ho2 : Own fS 1 9 w0.heap.size w2 o acc := ho.keep (gud95 hu2.grown) (fun c hc => by cases hc; exact hb0)
    have hw : wE s a = a + 1 := wE_x ⟨by omega, by omega⟩
    have hle1 : a ≤ a + 1 ∧ a + 1 ≤ s.length := by omega
    generalize a + 1 = e at *
    simp only [↓vsd, vsn, gW, qd, qv, ev, pick, argE, zipE, ne_eq, eq_self, forall_const, implies_true, if_true, if_false, reduceIte, reduceCtorEq, Nat.reduceEqDiff, Nat.reduceAdd, Nat.reduceLT, ↓us_sl3R_word, r_sl3R_word, hb2.facts, fR3g]
    refine ⟨⟨by omega, by omega, by omega⟩, ?_⟩
    have hbz := dr95 hb2
    have hgz := gdr95 hg2
    have hoz := ho2.ext (dr (Ext.refl _))
    have hsc : ((s.take (e)).drop a).length ≤ 1000 := by rw [List.length_drop, List.length_take]; omega
    refine m_call (sl3Tidy_ok n _ hn hsc _) ?_
    rintro _ w8 hx8 rfl
    have hb8 := hbz.ext hx8
    have ho8 := hoz.ext hx8
    have hg8 := gtr95 hgz (grown_ext _ hx8)
    by_cases hae : e = a
    · have haeI : ((e : Nat) : Int) = a := by omega
      simp only [↓vsd, vsn, gW, qd, qv, ev, pick, argE, zipE, ne_eq, eq_self, forall_const, implies_true, if_true, if_false, reduceIte, reduceCtorEq, Nat.reduceEqDiff, Nat.reduceAdd, Nat.reduceLT, ↓us_sl3R_word, r_sl3R_word, hb8.facts, fR3g, haeI]
      refine m_st hb8 rfl (by decide : 4 + 1 ≤ 5) (fI_one _) ?_
      rintro w9 hb9' hu9
      have hb9 : Blk w9 b (fR3 n s (e : Nat) o (a : Nat)) 82 := hb9'
      simp only [↓vsd, vsn, gW, qd, qv, ev, pick, argE, zipE, ne_eq, eq_self, forall_const, implies_true, if_true, if_false, reduceIte, reduceCtorEq, Nat.reduceEqDiff, Nat.reduceAdd, Nat.reduceLT, ↓us_sl3R_word, r_sl3R_word]
      exact ⟨gtr95 hg8 hu9.grown, fun _ => ⟨o, by rw [hw]; exact hb9⟩, fun hh => absurd (by rw [hw]; first | exact .inl hae | exact .inr htd) hh⟩
    · have haeI : ¬ ((e : Nat) : Int) = a := by omega
      have haeJ : ¬ (a : Int) = ((e : Nat) : Int) := by omega
      by_cases htd : tidyL n ((s.take (e)).drop a) = []
      · simp only [↓vsd, vsn, gW, qd, qv, ev, pick, argE, zipE, ne_eq, eq_self, forall_const, implies_true, if_true, if_false, reduceIte, reduceCtorEq, Nat.reduceEqDiff, Nat.reduceAdd, Nat.reduceLT, ↓us_sl3R_word, r_sl3R_word, hb8.facts, fR3g, haeI, haeJ, htd]
        refine m_st hb8 rfl (by decide : 4 + 1 ≤ 5) (fI_one _) ?_
        rintro w9 hb9' hu9
        have hb9 : Blk w9 b (fR3 n s (e : Nat) o (a : Nat)) 82 := hb9'
        simp only [↓vsd, vsn, gW, qd, qv, ev, pick, argE, zipE, ne_eq, eq_self, forall_const, implies_true, if_true, if_false, reduceIte, reduceCtorEq, Nat.reduceEqDiff, Nat.reduceAdd, Nat.reduceLT, ↓us_sl3R_word, r_sl3R_word]
        exact ⟨gtr95 hg8 hu9.grown, fun _ => ⟨o, by rw [hw]; exact hb9⟩, fun hh => absurd (by rw [hw]; first | exact .inl hae | exact .inr htd) hh⟩
      · simp only [↓vsd, vsn, gW, qd, qv, ev, pick, argE, zipE, ne_eq, eq_self, forall_const, implies_true, if_true, if_false, reduceIte, reduceCtorEq, Nat.reduceEqDiff, Nat.reduceAdd, Nat.reduceLT, ↓us_sl3R_word, r_sl3R_word, hb8.facts, fR3g, haeI, haeJ, htd]
        refine m_bsl (one_el rfl) ?_
        rintro b9 w9 hb9e hblk9 hx9 hs9
        simp only [↓vsd, vsn, gW, qd, qv, ev, pick, argE, zipE, ne_eq, eq_self, forall_const, implies_true, if_true, if_false, reduceIte, reduceCtorEq, Nat.reduceEqDiff, Nat.reduceAdd, Nat.reduceLT, ↓us_sl3R_word, r_sl3R_word]
        have hsz8 := hg8.size
        have hb9 := hb8.ext hx9
        refine m_app (ho8.ext hx9) (Sq.one fS_len hblk9 rfl) fS_one (by decide) (by simp; omega) (by decide) (by have := hx9.size; omega) ?_
        rintro oA wA hoA hgA
        have hob : ∀ c, o.ownBlock = some c → w0.heap.size ≤ c := fun c hc => (ho8.bound c hc).1
        have hbA := hb9.same (hgA.block b hb9.lt (fun e => by have := hob b e.symm; omega))
        have hg1A := gapp95 (gtr95 hg8 (grown_ext _ hx9)) hgA hob
        simp only [↓vsd, vsn, gW, qd, qv, ev, pick, argE, zipE, ne_eq, eq_self, forall_const, implies_true, if_true, if_false, reduceIte, reduceCtorEq, Nat.reduceEqDiff, Nat.reduceAdd, Nat.reduceLT, ↓us_sl3R_word, r_sl3R_word, hbA.facts, fR3g]
        have hnc : oA.cells = #[oA] := of_eq_true hoA.sq.oneC
        refine m_st hbA (by rw [hnc]; rfl) (by decide : 3 + 1 ≤ 5) (by rw [hnc]; intro u hu; simp only [List.mem_singleton] at hu; subst hu; exact hoA.sq.one') ?_
        rintro wB hbB' huB
        rw [hnc] at hbB'
        have hbB : Blk wB b (fR3 n s (e : Nat) oA (-1)) 82 := hbB'
        have hoB := hoA.keep huB.grown (fun c hc => by cases hc; exact hb0)
        simp only [↓vsd, vsn, gW, qd, qv, ev, pick, argE, zipE, ne_eq, eq_self, forall_const, implies_true, if_true, if_false, reduceIte, reduceCtorEq, Nat.reduceEqDiff, Nat.reduceAdd, Nat.reduceLT, ↓us_sl3R_word, r_sl3R_word]
        refine ⟨gtr95 hg1A huB.grown, fun hh => ?_, fun _ => ⟨oA, by rw [hw]; exact hbB, by rw [hw]; exact hoB⟩⟩
        rw [hw] at hh
        exact absurd hh (fun h => h.elim hae htd)
  · have hw : wE s a = digT s a := wE_d fun hh => hxx ⟨by have := hh.1; omega, by have := hh.2; omega⟩
    refine m_loop (fun m vs w' => ∃ e : Nat, m = s.length - e ∧ vs = [] ∧ a ≤ e ∧ e ≤ s.length ∧ digT s e = digT s a ∧ Blk w' b (fR3 n s e o (-1)) 82 ∧ w0.grownBy w' (some b) ∧ Own fS 1 9 w0.heap.size w' o acc) (s.length - a) ⟨a, rfl, rfl, by omega, by omega, rfl, dr95 hb, gdr95 hg0, ho.ext (dr (Ext.refl _))⟩ ?_
    rintro m vs w2 ⟨e, rfl, rfl, hae, hes, hd, hb2, hg2, ho2⟩
    by_cases hle : e < s.length
    · have hleI : (e : Int) < s.length := by omega
      have hleJ : ¬ (s.length : Int) ≤ e := by omega
      simp only [↓vsd, vsn, gW, qd, qv, ev, pick, argE, zipE, ne_eq, eq_self, forall_const, implies_true, if_true, if_false, reduceIte, reduceCtorEq, Nat.reduceEqDiff, Nat.reduceAdd, Nat.reduceLT, ↓us_sl3R_word, r_sl3R_word, hleI, hleJ, hb2.facts, fR3g]
      refine ⟨by omega, fun _ => by omega, fun hdg => ⟨inR_i64 (by omega), m_st (dr95 hb2) rfl (by decide : 2 + 1 ≤ 5) (fI_one _) ?_⟩, fun hdg => ⟨⟨by omega, by omega, by omega⟩, ?_⟩⟩
      · rintro w3 hb3' hu3
        have hb3 : Blk w3 b (fR3 n s (e + 1 : Nat) o (-1)) 82 := hb3'
        have ho3 : Own fS 1 9 w0.heap.size w3 o acc := ho2.keep (gud95 hu3.grown) (fun c hc => by cases hc; exact hb0)
        have hdg' : IsDg s e := ⟨hle, by omega, by omega⟩
        simp only [↓vsd, vsn, gW, qd, qv, ev, pick, argE, zipE, ne_eq, eq_self, forall_const, implies_true, if_true, if_false, reduceIte, reduceCtorEq, Nat.reduceEqDiff, Nat.reduceAdd, Nat.reduceLT, ↓us_sl3R_word, r_sl3R_word]
        exact ⟨s.length - (e + 1), by omega, e + 1, rfl, by omega, by omega, by rw [← digT_step hdg']; exact hd, hb3, gtr95 (gdr95 hg2) hu3.grown, ho3⟩
      · have hw2 : wE s a = e := by rw [hw, ← hd]; exact digT_stop fun hh => hdg ⟨by have := hh.2; omega, by have := hh.2; omega⟩
        have hw := hw2
        have hbz := dr95 (dr95 hb2)
        have hgz := gdr95 (gdr95 hg2)
        have hoz := ho2.ext (dr (dr (Ext.refl _)))
        have hsc : ((s.take (e)).drop a).length ≤ 1000 := by rw [List.length_drop, List.length_take]; omega
        refine m_call (sl3Tidy_ok n _ hn hsc _) ?_
        rintro _ w8 hx8 rfl
        have hb8 := hbz.ext hx8
        have ho8 := hoz.ext hx8
        have hg8 := gtr95 hgz (grown_ext _ hx8)
        by_cases hae : e = a
        · have haeI : ((e : Nat) : Int) = a := by omega
          simp only [↓vsd, vsn, gW, qd, qv, ev, pick, argE, zipE, ne_eq, eq_self, forall_const, implies_true, if_true, if_false, reduceIte, reduceCtorEq, Nat.reduceEqDiff, Nat.reduceAdd, Nat.reduceLT, ↓us_sl3R_word, r_sl3R_word, hb8.facts, fR3g, haeI]
          refine m_st hb8 rfl (by decide : 4 + 1 ≤ 5) (fI_one _) ?_
          rintro w9 hb9' hu9
          have hb9 : Blk w9 b (fR3 n s (e : Nat) o (a : Nat)) 82 := hb9'
          simp only [↓vsd, vsn, gW, qd, qv, ev, pick, argE, zipE, ne_eq, eq_self, forall_const, implies_true, if_true, if_false, reduceIte, reduceCtorEq, Nat.reduceEqDiff, Nat.reduceAdd, Nat.reduceLT, ↓us_sl3R_word, r_sl3R_word]
          exact ⟨gtr95 hg8 hu9.grown, fun _ => ⟨o, by rw [hw]; exact hb9⟩, fun hh => absurd (by rw [hw]; first | exact .inl hae | exact .inr htd) hh⟩
        · have haeI : ¬ ((e : Nat) : Int) = a := by omega
          have haeJ : ¬ (a : Int) = ((e : Nat) : Int) := by omega
          by_cases htd : tidyL n ((s.take (e)).drop a) = []
          · simp only [↓vsd, vsn, gW, qd, qv, ev, pick, argE, zipE, ne_eq, eq_self, forall_const, implies_true, if_true, if_false, reduceIte, reduceCtorEq, Nat.reduceEqDiff, Nat.reduceAdd, Nat.reduceLT, ↓us_sl3R_word, r_sl3R_word, hb8.facts, fR3g, haeI, haeJ, htd]
            refine m_st hb8 rfl (by decide : 4 + 1 ≤ 5) (fI_one _) ?_
            rintro w9 hb9' hu9
            have hb9 : Blk w9 b (fR3 n s (e : Nat) o (a : Nat)) 82 := hb9'
            simp only [↓vsd, vsn, gW, qd, qv, ev, pick, argE, zipE, ne_eq, eq_self, forall_const, implies_true, if_true, if_false, reduceIte, reduceCtorEq, Nat.reduceEqDiff, Nat.reduceAdd, Nat.reduceLT, ↓us_sl3R_word, r_sl3R_word]
            exact ⟨gtr95 hg8 hu9.grown, fun _ => ⟨o, by rw [hw]; exact hb9⟩, fun hh => absurd (by rw [hw]; first | exact .inl hae | exact .inr htd) hh⟩
          · simp only [↓vsd, vsn, gW, qd, qv, ev, pick, argE, zipE, ne_eq, eq_self, forall_const, implies_true, if_true, if_false, reduceIte, reduceCtorEq, Nat.reduceEqDiff, Nat.reduceAdd, Nat.reduceLT, ↓us_sl3R_word, r_sl3R_word, hb8.facts, fR3g, haeI, haeJ, htd]
            refine m_bsl (one_el rfl) ?_
            rintro b9 w9 hb9e hblk9 hx9 hs9
            simp only [↓vsd, vsn, gW, qd, qv, ev, pick, argE, zipE, ne_eq, eq_self, forall_const, implies_true, if_true, if_false, reduceIte, reduceCtorEq, Nat.reduceEqDiff, Nat.reduceAdd, Nat.reduceLT, ↓us_sl3R_word, r_sl3R_word]
            have hsz8 := hg8.size
            have hb9 := hb8.ext hx9
            refine m_app (ho8.ext hx9) (Sq.one fS_len hblk9 rfl) fS_one (by decide) (by simp; omega) (by decide) (by have := hx9.size; omega) ?_
            rintro oA wA hoA hgA
            have hob : ∀ c, o.ownBlock = some c → w0.heap.size ≤ c := fun c hc => (ho8.bound c hc).1
            have hbA := hb9.same (hgA.block b hb9.lt (fun e => by have := hob b e.symm; omega))
            have hg1A := gapp95 (gtr95 hg8 (grown_ext _ hx9)) hgA hob
            simp only [↓vsd, vsn, gW, qd, qv, ev, pick, argE, zipE, ne_eq, eq_self, forall_const, implies_true, if_true, if_false, reduceIte, reduceCtorEq, Nat.reduceEqDiff, Nat.reduceAdd, Nat.reduceLT, ↓us_sl3R_word, r_sl3R_word, hbA.facts, fR3g]
            have hnc : oA.cells = #[oA] := of_eq_true hoA.sq.oneC
            refine m_st hbA (by rw [hnc]; rfl) (by decide : 3 + 1 ≤ 5) (by rw [hnc]; intro u hu; simp only [List.mem_singleton] at hu; subst hu; exact hoA.sq.one') ?_
            rintro wB hbB' huB
            rw [hnc] at hbB'
            have hbB : Blk wB b (fR3 n s (e : Nat) oA (-1)) 82 := hbB'
            have hoB := hoA.keep huB.grown (fun c hc => by cases hc; exact hb0)
            simp only [↓vsd, vsn, gW, qd, qv, ev, pick, argE, zipE, ne_eq, eq_self, forall_const, implies_true, if_true, if_false, reduceIte, reduceCtorEq, Nat.reduceEqDiff, Nat.reduceAdd, Nat.reduceLT, ↓us_sl3R_word, r_sl3R_word]
            refine ⟨gtr95 hg1A huB.grown, fun hh => ?_, fun _ => ⟨oA, by rw [hw]; exact hbB, by rw [hw]; exact hoB⟩⟩
            rw [hw] at hh
            exact absurd hh (fun h => h.elim hae htd)
    · have hleI : ¬ (e : Int) < s.length := by omega
      have hleJ : (s.length : Int) ≤ e := by omega
      simp only [↓vsd, vsn, gW, qd, qv, ev, pick, argE, zipE, ne_eq, eq_self, forall_const, implies_true, if_true, if_false, reduceIte, reduceCtorEq, Nat.reduceEqDiff, Nat.reduceAdd, Nat.reduceLT, ↓us_sl3R_word, r_sl3R_word, hleI, hleJ, hb2.facts, fR3g]
      refine ⟨⟨by omega, by omega, by omega⟩, ?_⟩
      have hw2 : wE s a = e := by rw [hw, ← hd]; exact digT_stop fun hh => hle hh.1
      have hw := hw2
      have hbz := dr95 (dr95 hb2)
      have hgz := gdr95 (gdr95 hg2)
      have hoz := ho2.ext (dr (dr (Ext.refl _)))
      have hsc : ((s.take (e)).drop a).length ≤ 1000 := by rw [List.length_drop, List.length_take]; omega
      refine m_call (sl3Tidy_ok n _ hn hsc _) ?_
      rintro _ w8 hx8 rfl
      have hb8 := hbz.ext hx8
      have ho8 := hoz.ext hx8
      have hg8 := gtr95 hgz (grown_ext _ hx8)
      by_cases hae : e = a
      · have haeI : ((e : Nat) : Int) = a := by omega
        simp only [↓vsd, vsn, gW, qd, qv, ev, pick, argE, zipE, ne_eq, eq_self, forall_const, implies_true, if_true, if_false, reduceIte, reduceCtorEq, Nat.reduceEqDiff, Nat.reduceAdd, Nat.reduceLT, ↓us_sl3R_word, r_sl3R_word, hb8.facts, fR3g, haeI]
        refine m_st hb8 rfl (by decide : 4 + 1 ≤ 5) (fI_one _) ?_
        rintro w9 hb9' hu9
        have hb9 : Blk w9 b (fR3 n s (e : Nat) o (a : Nat)) 82 := hb9'
        simp only [↓vsd, vsn, gW, qd, qv, ev, pick, argE, zipE, ne_eq, eq_self, forall_const, implies_true, if_true, if_false, reduceIte, reduceCtorEq, Nat.reduceEqDiff, Nat.reduceAdd, Nat.reduceLT, ↓us_sl3R_word, r_sl3R_word]
        exact ⟨gtr95 hg8 hu9.grown, fun _ => ⟨o, by rw [hw]; exact hb9⟩, fun hh => absurd (by rw [hw]; first | exact .inl hae | exact .inr htd) hh⟩
      · have haeI : ¬ ((e : Nat) : Int) = a := by omega
        have haeJ : ¬ (a : Int) = ((e : Nat) : Int) := by omega
        by_cases htd : tidyL n ((s.take (e)).drop a) = []
        · simp only [↓vsd, vsn, gW, qd, qv, ev, pick, argE, zipE, ne_eq, eq_self, forall_const, implies_true, if_true, if_false, reduceIte, reduceCtorEq, Nat.reduceEqDiff, Nat.reduceAdd, Nat.reduceLT, ↓us_sl3R_word, r_sl3R_word, hb8.facts, fR3g, haeI, haeJ, htd]
          refine m_st hb8 rfl (by decide : 4 + 1 ≤ 5) (fI_one _) ?_
          rintro w9 hb9' hu9
          have hb9 : Blk w9 b (fR3 n s (e : Nat) o (a : Nat)) 82 := hb9'
          simp only [↓vsd, vsn, gW, qd, qv, ev, pick, argE, zipE, ne_eq, eq_self, forall_const, implies_true, if_true, if_false, reduceIte, reduceCtorEq, Nat.reduceEqDiff, Nat.reduceAdd, Nat.reduceLT, ↓us_sl3R_word, r_sl3R_word]
          exact ⟨gtr95 hg8 hu9.grown, fun _ => ⟨o, by rw [hw]; exact hb9⟩, fun hh => absurd (by rw [hw]; first | exact .inl hae | exact .inr htd) hh⟩
        · simp only [↓vsd, vsn, gW, qd, qv, ev, pick, argE, zipE, ne_eq, eq_self, forall_const, implies_true, if_true, if_false, reduceIte, reduceCtorEq, Nat.reduceEqDiff, Nat.reduceAdd, Nat.reduceLT, ↓us_sl3R_word, r_sl3R_word, hb8.facts, fR3g, haeI, haeJ, htd]
          refine m_bsl (one_el rfl) ?_
          rintro b9 w9 hb9e hblk9 hx9 hs9
          simp only [↓vsd, vsn, gW, qd, qv, ev, pick, argE, zipE, ne_eq, eq_self, forall_const, implies_true, if_true, if_false, reduceIte, reduceCtorEq, Nat.reduceEqDiff, Nat.reduceAdd, Nat.reduceLT, ↓us_sl3R_word, r_sl3R_word]
          have hsz8 := hg8.size
          have hb9 := hb8.ext hx9
          refine m_app (ho8.ext hx9) (Sq.one fS_len hblk9 rfl) fS_one (by decide) (by simp; omega) (by decide) (by have := hx9.size; omega) ?_
          rintro oA wA hoA hgA
          have hob : ∀ c, o.ownBlock = some c → w0.heap.size ≤ c := fun c hc => (ho8.bound c hc).1
          have hbA := hb9.same (hgA.block b hb9.lt (fun e => by have := hob b e.symm; omega))
          have hg1A := gapp95 (gtr95 hg8 (grown_ext _ hx9)) hgA hob
          simp only [↓vsd, vsn, gW, qd, qv, ev, pick, argE, zipE, ne_eq, eq_self, forall_const, implies_true, if_true, if_false, reduceIte, reduceCtorEq, Nat.reduceEqDiff, Nat.reduceAdd, Nat.reduceLT, ↓us_sl3R_word, r_sl3R_word, hbA.facts, fR3g]
          have hnc : oA.cells = #[oA] := of_eq_true hoA.sq.oneC
          refine m_st hbA (by rw [hnc]; rfl) (by decide : 3 + 1 ≤ 5) (by rw [hnc]; intro u hu; simp only [List.mem_singleton] at hu; subst hu; exact hoA.sq.one') ?_
          rintro wB hbB' huB
          rw [hnc] at hbB'
          have hbB : Blk wB b (fR3 n s (e : Nat) oA (-1)) 82 := hbB'
          have hoB := hoA.keep huB.grown (fun c hc => by cases hc; exact hb0)
          simp only [↓vsd, vsn, gW, qd, qv, ev, pick, argE, zipE, ne_eq, eq_self, forall_const, implies_true, if_true, if_false, reduceIte, reduceCtorEq, Nat.reduceEqDiff, Nat.reduceAdd, Nat.reduceLT, ↓us_sl3R_word, r_sl3R_word]
          refine ⟨gtr95 hg1A huB.grown, fun hh => ?_, fun _ => ⟨oA, by rw [hw]; exact hbB, by rw [hw]; exact hoB⟩⟩
          rw [hw] at hh
          exact absurd hh (fun h => h.elim hae htd)
def IsXc (s : Bs) (k : Nat) : Prop := (s.getD k 0).toNat = 45 ∨ (s.getD k 0).toNat = 120
/-- The state of a block's reading behind a word. -/
def WSt (n : Nat) (s : Bs) (b m : Nat) (R : Sum Nat (List Bs × Nat)) (w w' : World) : Prop :=
  w.grownBy w' (some b) ∧ ∃ (e : Nat) (o' : Value), e ≤ s.length ∧ ((∃ p : Nat, Blk w' b (fR3 n s e o' p) 82 ∧ R = .inl p) ∨ (∃ acc, Blk w' b (fR3 n s e o' (-1)) 82 ∧ Own fS 1 9 w.heap.size w' o' acc ∧ acc.length ≤ e ∧ 1 ≤ e ∧ s.length < m + e ∧ (¬ IsDg s e ∨ IsXc s (e - 1)) ∧
    R = if s.length ≤ e ∨ (s.getD e 0).toNat = 44 then .inr (acc, e) else blkN n s m (if (s.getD e 0).toNat = 46 then e + 1 else e) acc))
theorem WSt.of {n b m q : Nat} {s : Bs} {acc : List Bs} {R : Sum Nat (List Bs × Nat)} {w w' : World} (hR : blkN n s (m + 1) q acc = R) (hq : q ≤ s.length) (hm : s.length < m + 1 + q) (hal : acc.length ≤ q) (h : WdOut n s q b acc w w') : WSt n s b m R w w' := by
  obtain ⟨hg, hbad, hgood⟩ := h
  have h1 := (wE_le s q).1
  have h2 := (wE_le s q).2 hq
  rw [blkN] at hR
  by_cases hc : wE s q = q ∨ tidyL n ((s.take (wE s q)).drop q) = []
  · rw [if_pos hc] at hR
    obtain ⟨o', hb⟩ := hbad hc
    exact ⟨hg, _, o', h2, .inl ⟨q, hb, hR.symm⟩⟩
  · rw [if_neg hc] at hR
    obtain ⟨o', hb, ho⟩ := hgood hc
    have hne : wE s q ≠ q := fun hh => hc (.inl hh)
    refine ⟨hg, _, o', h2, .inr ⟨_, hb, ho, by rw [List.length_append, List.length_singleton]; omega, by omega, by omega, ?_, hR.symm⟩⟩
    by_cases hx : IsX s q
    · right
      rw [wE_x hx]
      exact hx.2
    · left
      rw [wE_d hx]
      exact digT_next s.length q (by omega)
/-- What the reading of a block leaves. -/
def BkOut3 (n : Nat) (s : Bs) (b : Nat) (w : World) (R : Sum Nat (List Bs × Nat)) (w' : World) : Prop :=
  w.grownBy w' (some b) ∧ (∀ p, R = .inl p → ∃ (e : Nat) (o' : Value), Blk w' b (fR3 n s e o' p) 82) ∧ (∀ l e, R = .inr (l, e) → ∃ o', Blk w' b (fR3 n s (e : Nat) o' (-1)) 82 ∧ Own fS 1 9 w.heap.size w' o' l)
theorem BkOut3.bad {n b p e : Nat} {s : Bs} {R : Sum Nat (List Bs × Nat)} {w w' : World} {o' : Value} (hR : R = .inl p) (hg : w.grownBy w' (some b)) (hb : Blk w' b (fR3 n s e o' p) 82) : BkOut3 n s b w R w' :=
  ⟨hg, fun p' hp => (by rw [hR] at hp; cases hp; exact ⟨e, o', hb⟩), fun l e hp => (by rw [hR] at hp; cases hp)⟩
theorem BkOut3.good {n b e : Nat} {s : Bs} {R : Sum Nat (List Bs × Nat)} {w w' : World} {o' : Value} {l : List Bs} (hR : R = .inr (l, e)) (hg : w.grownBy w' (some b)) (hb : Blk w' b (fR3 n s e o' (-1)) 82) (ho : Own fS 1 9 w.heap.size w' o' l) : BkOut3 n s b w R w' :=
  ⟨hg, fun p' hp => (by rw [hR] at hp; cases hp), fun l' e' hp => (by rw [hR] at hp; cases hp; exact ⟨o', hb, ho⟩)⟩
theorem sl3R_block_ok (n : Nat) (s : Bs) (a b : Nat) (hn : 3 ≤ n ∧ n ≤ 8) (hs : s.length ≤ 200) (ha : a ≤ s.length) (w : World) (hb : Blk w b (fR3 n s a (.slice none 0 0) (-1)) 82) : CallsV Try.prog 56 [.pointer (some ⟨b, 0, none⟩)] w (fun _ w' => BkOut3 n s b w (blkN n s (s.length + 1) a []) w') := by
  (refine callsV_of mix Try.func56 c_sl3R_block ?_; simp only [↓vsd, vsn, gW, qd, qv, ev, pick, argE, zipE, ne_eq, eq_self, forall_const, implies_true, if_true, if_false, reduceIte, reduceCtorEq, Nat.reduceEqDiff, Nat.reduceAdd, Nat.reduceLT, ↓us_sl3R_block, r_sl3R_block])
  have hbw := hb.lt
  refine m_callw (.inl rfl) (sl3R_word_ok n s a b _ [] hn hs ha (by simp) w w hbw (grown_ext _ (Ext.refl _)) (Own.nil fS_len) hb) ?_
  rintro _ w1 hwd
  have hst := WSt.of (R := blkN n s (s.length + 1) a []) rfl ha (by omega) (by simp) hwd
  generalize blkN n s (s.length + 1) a [] = R at *
  simp only [↓vsd, vsn, gW, qd, qv, ev, pick, argE, zipE, ne_eq, eq_self, forall_const, implies_true, if_true, if_false, reduceIte, reduceCtorEq, Nat.reduceEqDiff, Nat.reduceAdd, Nat.reduceLT, ↓us_sl3R_block, r_sl3R_block]
  refine m_loop (fun m vs w' => vs = [] ∧ WSt n s b m R w w') s.length ⟨rfl, hst⟩ ?_
  rintro m vs w2 ⟨rfl, hg2, e, o', he, ⟨p, hb2, hR⟩ | ⟨acc, hb2, ho2, hal, he1, hm, hlast, hR⟩⟩
  · have hI : (0 : Int) ≤ (p : Nat) := by omega
    have hJ : ¬ ((p : Nat) : Int) < 0 := by omega
    simp only [↓vsd, vsn, gW, qd, qv, ev, pick, argE, zipE, ne_eq, eq_self, forall_const, implies_true, if_true, if_false, reduceIte, reduceCtorEq, Nat.reduceEqDiff, Nat.reduceAdd, Nat.reduceLT, ↓us_sl3R_block, r_sl3R_block, hb2.facts, fR3g, hI, hJ]
    exact BkOut3.bad hR (gdr95 hg2) (dr95 hb2)
  · have hI : (-1 : Int) < 0 := by decide
    have hJ : ¬ (0 : Int) ≤ -1 := by decide
    by_cases hend : s.length ≤ e ∨ (s.getD e 0).toNat = 44
    · rw [if_pos hend] at hR
      by_cases hlt : e < s.length
      · have hltI : (e : Int) < s.length := by omega
        have hc : ((s.getD e 0).toNat : Int) = 44 := by omega
        simp only [↓vsd, vsn, gW, qd, qv, ev, pick, argE, zipE, ne_eq, eq_self, forall_const, implies_true, if_true, if_false, reduceIte, reduceCtorEq, Nat.reduceEqDiff, Nat.reduceAdd, Nat.reduceLT, ↓us_sl3R_block, r_sl3R_block, hb2.facts, fR3g, hI, hJ, hltI]
        refine ⟨by omega, fun hh => absurd hc hh, fun _ => ?_⟩
        exact BkOut3.good hR (gdr95 hg2) (dr95 hb2) (ho2.ext (dr (Ext.refl _)))
      · have hltI : ¬ (e : Int) < s.length := by omega
        simp only [↓vsd, vsn, gW, qd, qv, ev, pick, argE, zipE, ne_eq, eq_self, forall_const, implies_true, if_true, if_false, reduceIte, reduceCtorEq, Nat.reduceEqDiff, Nat.reduceAdd, Nat.reduceLT, ↓us_sl3R_block, r_sl3R_block, hb2.facts, fR3g, hI, hJ, hltI]
        exact BkOut3.good hR (gdr95 hg2) (dr95 hb2) (ho2.ext (dr (Ext.refl _)))
    · rw [if_neg hend] at hR
      have hlt : e < s.length := by omega
      have hltI : (e : Int) < s.length := by omega
      have hc : ¬ ((s.getD e 0).toNat : Int) = 44 := by omega
      simp only [↓vsd, vsn, gW, qd, qv, ev, pick, argE, zipE, ne_eq, eq_self, forall_const, implies_true, if_true, if_false, reduceIte, reduceCtorEq, Nat.reduceEqDiff, Nat.reduceAdd, Nat.reduceLT, ↓us_sl3R_block, r_sl3R_block, hb2.facts, fR3g, hI, hJ, hltI, hc]
      obtain ⟨m, rfl⟩ : ∃ g, m = g + 1 := ⟨m - 1, by omega⟩
      refine ⟨by omega, inR_i64 (by omega), ⟨by omega, by omega⟩, by omega, fun hdot => ⟨inR_i64 (by omega), m_st (dr95 (dr95 (dr95 hb2))) rfl (by decide : 2 + 1 ≤ 5) (fI_one _) ?_⟩, fun hdot => ?_⟩
      · rintro w3 hb3' hu3
        have hb3 : Blk w3 b (fR3 n s (e + 1 : Nat) o' (-1)) 82 := hb3'
        have ho3 : Own fS 1 9 w.heap.size w3 o' acc := ho2.keep (gud95 (gud95 (gud95 hu3.grown))) (fun c hc => by cases hc; exact hbw)
        have hg3 := gtr95 (gdr95 (gdr95 (gdr95 hg2))) hu3.grown
        rw [if_pos (by omega)] at hR
        simp only [↓vsd, vsn, gW, qd, qv, ev, pick, argE, zipE, ne_eq, eq_self, forall_const, implies_true, if_true, if_false, reduceIte, reduceCtorEq, Nat.reduceEqDiff, Nat.reduceAdd, Nat.reduceLT, ↓us_sl3R_block, r_sl3R_block]
        refine m_callw (.inl rfl) (sl3R_word_ok n s (e + 1) b _ acc hn hs (by omega) (by omega) w w3 hbw hg3 ho3 hb3) ?_
        rintro _ w4 hwd
        simp only [↓vsd, vsn, gW, qd, qv, ev, pick, argE, zipE, ne_eq, eq_self, forall_const, implies_true, if_true, if_false, reduceIte, reduceCtorEq, Nat.reduceEqDiff, Nat.reduceAdd, Nat.reduceLT, ↓us_sl3R_block, r_sl3R_block]
        exact ⟨m, by omega, WSt.of hR.symm (by omega) (by omega) (by omega) hwd⟩
      · rw [if_neg (by omega)] at hR
        refine ⟨fun hcon => ?_, fun hcon => ?_⟩
        · have hnd : ¬ IsDg s e := hlast.resolve_right fun hh => by
            rcases hh with hh | hh <;> omega
          have hnx : ¬ IsX s e := fun hh => by
            rcases hh.2 with hh | hh <;> omega
          have hwe : wE s e = e := by rw [wE_d hnx, digT_stop hnd]
          rw [blkN, if_pos (.inl hwe)] at hR
          refine m_st (dr95 (dr95 (dr95 hb2))) rfl (by decide : 4 + 1 ≤ 5) (fI_one _) ?_
          rintro w3 hb3' hu3
          have hb3 : Blk w3 b (fR3 n s (e : Nat) o' (e : Nat)) 82 := hb3'
          have hg3 := gtr95 (gdr95 (gdr95 (gdr95 hg2))) hu3.grown
          simp only [↓vsd, vsn, gW, qd, qv, ev, pick, argE, zipE, ne_eq, eq_self, forall_const, implies_true, if_true, if_false, reduceIte, reduceCtorEq, Nat.reduceEqDiff, Nat.reduceAdd, Nat.reduceLT, ↓us_sl3R_block, r_sl3R_block]
          exact BkOut3.bad hR hg3 hb3
        · refine m_callw (.inl rfl) (sl3R_word_ok n s e b _ acc hn hs (by omega) (by omega) w _ hbw (gdr95 (gdr95 (gdr95 hg2))) (ho2.ext (dr (dr (dr (Ext.refl _))))) (dr95 (dr95 (dr95 hb2)))) ?_
          rintro _ w4 hwd
          simp only [↓vsd, vsn, gW, qd, qv, ev, pick, argE, zipE, ne_eq, eq_self, forall_const, implies_true, if_true, if_false, reduceIte, reduceCtorEq, Nat.reduceEqDiff, Nat.reduceAdd, Nat.reduceLT, ↓us_sl3R_block, r_sl3R_block]
          exact ⟨m, by omega, WSt.of hR.symm (by omega) (by omega) (by omega) hwd⟩
end Go.Proofs.Ytfklonhjgkahdaa
