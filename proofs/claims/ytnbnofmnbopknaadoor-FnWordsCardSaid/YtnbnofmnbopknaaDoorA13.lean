/-
  Programs of calls: what the program's reader computes.
  Conditions: none.
-/
import Derived.Test.YtnbnofmnbopknaaDoorA2
import Derived.Test.YtnbnofmnbopknaaDoorA6
import Derived.Test.YtnbnofmnbopknaaDoorPf
import Derived.Test.YtnbnofmnbopknaaDoorVz
set_option linter.unusedSimpArgs false
set_option linter.unusedVariables false
set_option linter.defProp false
namespace Go.Proofs.YtnbnofmnbopknaaDoor
open Go Go.RowKit
section
variable (P : Program) (k : KT) (e : Env) (w : World)
abbrev b49_1 : X := (.seq (.reg [2] (.c (.q 3 [] (.mv (.t 0))) (.c (.q 4 [] (.bin .eql (.t 3) (.s [112]))) (.c (.q 5 [] (.mv (.t 4))) (.c (.q 6 [(5, false)] (.mv (.t 0))) (.c (.q 7 [(5, false)] (.bin .eql (.t 6) (.s [98]))) (.c (.q 8 [] (.pick (.t 5) (.c (.bool true)) (.t 7))) (.c (.q 9 [] (.mv (.t 8))) (.c (.q 10 [(9, false)] (.mv (.t 0))) (.c (.q 11 [(9, false)] (.bin .eql (.t 10) (.s [115]))) (.c (.q 12 [] (.pick (.t 9) (.c (.bool true)) (.t 11))) (.c (.q 2 [] (.mv (.t 12))) .nil)))))))))))) .ret)
def t49_1 := b49_1
theorem u49_1 : vcK P t49_1 k e w = vcK P b49_1 k e w := rfl
abbrev b49_0 : X := (.seq (.reg [0] (.c (.q 2 [] (.mv (.c (.bool false)))) .nil)) t49_1)
def x_iisCall := b49_0
theorem u49_0 : vcK P x_iisCall k e w = vcK P b49_0 k e w := rfl
def r_iisCall : List XO := [(.mv (.t 2))]
theorem c_iisCall : convF Tryd.prog [27, 28, 29, 30, 32, 36, 40, 45, 46, 47, 50, 51, 52, 61, 62, 98] Tryd.f49 [([0], []), ([2], [])] = some (x_iisCall, r_iisCall) := by kernel_rfl
def us_iisCall :=  (aI @u49_0 @u49_1)
abbrev b34_1 : X := (.cond (.t 15) (.seq (.reg [2] (.c (.q 2 [] (.mv (.c (.bool false)))) .nil)) .ret) .skip)
def t34_1 := b34_1
theorem u34_1 : vcK P t34_1 k e w = vcK P b34_1 k e w := rfl
abbrev b34_2 : X := (.seq (.reg [0, 5, 6, 15] (.c (.q 9 [] (.mv (.t 0))) (.c (.q 10 [] (.mv (.t 3))) (.c (.q 11 [] (.mv (.t 3))) (.c (.q 12 [] (.bin .add (.t 11) (.c (.int .i64 1)))) (.c (.q 13 [] (.sub (.t 9) (some (.t 10)) (some (.t 12)))) (.c (.e (some 14) [] (.call false 49 [(.t 13)])) (.c (.q 15 [] (.not (.t 14))) .nil)))))))) t34_1)
def t34_2 := b34_2
theorem u34_2 : vcK P t34_2 k e w = vcK P b34_2 k e w := rfl
abbrev b34_3 : X := (.reg [0, 5, 6] (.c (.q 16 [] (.bin .add (.t 6) (.c (.int .i64 1)))) (.c (.q 6 [] (.mv (.t 16))) .nil)))
def t34_3 := b34_3
theorem u34_3 : vcK P t34_3 k e w = vcK P b34_3 k e w := rfl
abbrev b34_4 : X := (.seq (.blk 1 (.seq (.reg [0, 3, 5, 6] (.c (.q 8 [] (.mv (.t 6))) (.c (.q 3 [] (.mv (.t 8))) .nil))) t34_2)) t34_3)
def t34_4 := b34_4
theorem u34_4 : vcK P t34_4 k e w = vcK P b34_4 k e w := rfl
abbrev b34_5 : X := (.seq (.cond (.t 7) .skip (.exit 0)) t34_4)
def t34_5 := b34_5
theorem u34_5 : vcK P t34_5 k e w = vcK P b34_5 k e w := rfl
abbrev b34_6 : X := (.seq (.reg [0, 5, 6, 7] (.c (.q 7 [] (.bin .lss (.t 6) (.t 5))) .nil)) t34_5)
def t34_6 := b34_6
theorem u34_6 : vcK P t34_6 k e w = vcK P b34_6 k e w := rfl
abbrev b34_7 : X := (.blk 0 (.loop [6] [0, 5] t34_6))
def t34_7 := b34_7
theorem u34_7 : vcK P t34_7 k e w = vcK P b34_7 k e w := rfl
abbrev b34_8 : X := (.seq (.reg [2] (.c (.q 2 [] (.mv (.c (.bool true)))) .nil)) .ret)
def t34_8 := b34_8
theorem u34_8 : vcK P t34_8 k e w = vcK P b34_8 k e w := rfl
abbrev b34_9 : X := (.seq (.seq (.reg [0, 5, 6] (.c (.q 4 [] (.mv (.t 0))) (.c (.q 5 [] (.len (.t 4))) (.c (.q 6 [] (.mv (.c (.int .i64 0)))) .nil)))) t34_7) t34_8)
def t34_9 := b34_9
theorem u34_9 : vcK P t34_9 k e w = vcK P b34_9 k e w := rfl
abbrev b34_0 : X := (.seq (.reg [0] (.c (.q 2 [] (.mv (.c (.bool false)))) .nil)) t34_9)
def x_iareCalls := b34_0
theorem u34_0 : vcK P x_iareCalls k e w = vcK P b34_0 k e w := rfl
def r_iareCalls : List XO := [(.mv (.t 2))]
theorem c_iareCalls : convF Tryd.prog [27, 28, 29, 30, 32, 36, 40, 45, 46, 47, 50, 51, 52, 61, 62, 98] Tryd.f34 [([0], []), ([0, 5, 6], []), ([6], [0, 5]), ([0, 5, 6, 7], []), ([0, 3, 5, 6], []), ([0, 5, 6, 15], []), ([2], []), ([0, 5, 6], []), ([2], [])] = some (x_iareCalls, r_iareCalls) := by kernel_rfl
def us_iareCalls :=  (aI (aI (aI @u34_0 @u34_1) (aI @u34_2 (aI @u34_3 @u34_4))) (aI (aI @u34_5 @u34_6) (aI @u34_7 (aI @u34_8 @u34_9))))
abbrev b48_1 : X := (.seq (.reg [2] (.c (.q 3 [] (.mv (.t 0))) (.c (.q 4 [] (.mv (.t 0))) (.c (.q 5 [] (.len (.t 4))) (.c (.q 6 [] (.mn (.t 5) (.c (.int .i64 61)))) (.c (.q 7 [] (.sub (.t 3) none (some (.t 6)))) (.c (.q 2 [] (.mv (.t 7))) .nil))))))) .ret)
def t48_1 := b48_1
theorem u48_1 : vcK P t48_1 k e w = vcK P b48_1 k e w := rfl
abbrev b48_0 : X := (.seq (.reg [0] (.c (.q 2 [] (.mv (.s []))) .nil)) t48_1)
def x_icut := b48_0
theorem u48_0 : vcK P x_icut k e w = vcK P b48_0 k e w := rfl
def r_icut : List XO := [(.mv (.t 2))]
theorem c_icut : convF Tryd.prog [27, 28, 29, 30, 32, 36, 40, 45, 46, 47, 50, 51, 52, 61, 62, 98] Tryd.f48 [([0], []), ([2], [])] = some (x_icut, r_icut) := by kernel_rfl
def us_icut :=  (aI @u48_0 @u48_1)
abbrev b33_1 : X := (.seq (.drw [4] (.c (.q 5 [] (.mv (.t 0))) (.c (.q 6 [] (.nil (.t 5))) (.c (.q 7 [] (.fa 1 (.t 6))) (.c (.q 8 [] (.ld (.t 7))) (.c (.q 9 [] (.mv (.t 0))) (.c (.q 10 [] (.nil (.t 9))) (.c (.q 11 [] (.fa 0 (.t 10))) (.c (.q 12 [] (.ld (.t 11))) (.c (.q 13 [] (.len (.t 12))) (.c (.q 14 [] (.bin .lss (.t 8) (.t 13))) (.c (.q 15 [] (.mv (.t 14))) (.c (.q 16 [(15, true)] (.mv (.t 0))) (.c (.q 17 [(15, true)] (.nil (.t 16))) (.c (.q 18 [(15, true)] (.fa 0 (.t 17))) (.c (.q 19 [(15, true)] (.ld (.t 18))) (.c (.q 20 [(15, true)] (.mv (.t 0))) (.c (.q 21 [(15, true)] (.nil (.t 20))) (.c (.q 22 [(15, true)] (.fa 1 (.t 21))) (.c (.q 23 [(15, true)] (.ld (.t 22))) (.c (.q 24 [(15, true)] (.idx (.t 19) (.t 23))) (.c (.q 25 [(15, true)] (.mv (.t 1))) (.c (.q 26 [(15, true)] (.bin .eql (.t 24) (.t 25))) (.c (.q 27 [] (.pick (.t 15) (.t 26) (.c (.bool false)))) (.c (.q 4 [] (.mv (.t 27))) .nil))))))))))))))))))))))))) .ret)
def t33_1 := b33_1
theorem u33_1 : vcK P t33_1 k e w = vcK P b33_1 k e w := rfl
abbrev b33_0 : X := (.seq (.reg [0, 1] (.c (.q 4 [] (.mv (.c (.bool false)))) .nil)) t33_1)
def x_iprogram_next := b33_0
theorem u33_0 : vcK P x_iprogram_next k e w = vcK P b33_0 k e w := rfl
def r_iprogram_next : List XO := [(.mv (.t 4))]
theorem c_iprogram_next : convF Tryd.prog [27, 28, 29, 30, 32, 36, 40, 45, 46, 47, 50, 51, 52, 61, 62, 98] Tryd.f33 [([0, 1], []), ([4], [])] = some (x_iprogram_next, r_iprogram_next) := by kernel_rfl
def us_iprogram_next :=  (aI @u33_0 @u33_1)
abbrev b31_1 : X := (.seq (.drw [2] (.c (.q 3 [] (.mv (.t 0))) (.c (.q 4 [] (.nil (.t 3))) (.c (.q 5 [] (.fa 1 (.t 4))) (.c (.q 6 [] (.ld (.t 5))) (.c (.q 7 [] (.bin .add (.t 6) (.c (.int .i64 1)))) (.c (.q 8 [] (.mv (.t 0))) (.c (.q 9 [] (.nil (.t 8))) (.c (.q 10 [] (.fa 0 (.t 9))) (.c (.q 11 [] (.ld (.t 10))) (.c (.q 12 [] (.len (.t 11))) (.c (.q 13 [] (.bin .lss (.t 7) (.t 12))) (.c (.q 14 [] (.mv (.t 13))) (.c (.q 15 [(14, true)] (.mv (.t 0))) (.c (.q 16 [(14, true)] (.nil (.t 15))) (.c (.q 17 [(14, true)] (.fa 0 (.t 16))) (.c (.q 18 [(14, true)] (.ld (.t 17))) (.c (.q 19 [(14, true)] (.mv (.t 0))) (.c (.q 20 [(14, true)] (.nil (.t 19))) (.c (.q 21 [(14, true)] (.fa 1 (.t 20))) (.c (.q 22 [(14, true)] (.ld (.t 21))) (.c (.q 23 [(14, true)] (.idx (.t 18) (.t 22))) (.c (.q 24 [(14, true)] (.bin .geq (.t 23) (.c (.int .u8 65)))) (.c (.q 25 [] (.pick (.t 14) (.t 24) (.c (.bool false)))) (.c (.q 26 [] (.mv (.t 25))) (.c (.q 27 [(26, true)] (.mv (.t 0))) (.c (.q 28 [(26, true)] (.nil (.t 27))) (.c (.q 29 [(26, true)] (.fa 0 (.t 28))) (.c (.q 30 [(26, true)] (.ld (.t 29))) (.c (.q 31 [(26, true)] (.mv (.t 0))) (.c (.q 32 [(26, true)] (.nil (.t 31))) (.c (.q 33 [(26, true)] (.fa 1 (.t 32))) (.c (.q 34 [(26, true)] (.ld (.t 33))) (.c (.q 35 [(26, true)] (.idx (.t 30) (.t 34))) (.c (.q 36 [(26, true)] (.bin .leq (.t 35) (.c (.int .u8 90)))) (.c (.q 37 [] (.pick (.t 26) (.t 36) (.c (.bool false)))) (.c (.q 38 [] (.mv (.t 37))) (.c (.q 39 [(38, true)] (.mv (.t 0))) (.c (.q 40 [(38, true)] (.nil (.t 39))) (.c (.q 41 [(38, true)] (.fa 0 (.t 40))) (.c (.q 42 [(38, true)] (.ld (.t 41))) (.c (.q 43 [(38, true)] (.mv (.t 0))) (.c (.q 44 [(38, true)] (.nil (.t 43))) (.c (.q 45 [(38, true)] (.fa 1 (.t 44))) (.c (.q 46 [(38, true)] (.ld (.t 45))) (.c (.q 47 [(38, true)] (.bin .add (.t 46) (.c (.int .i64 1)))) (.c (.q 48 [(38, true)] (.idx (.t 42) (.t 47))) (.c (.q 49 [(38, true)] (.bin .eql (.t 48) (.c (.int .u8 61)))) (.c (.q 50 [] (.pick (.t 38) (.t 49) (.c (.bool false)))) (.c (.q 2 [] (.mv (.t 50))) .nil)))))))))))))))))))))))))))))))))))))))))))))))))) .ret)
def t31_1 := b31_1
theorem u31_1 : vcK P t31_1 k e w = vcK P b31_1 k e w := rfl
abbrev b31_0 : X := (.seq (.reg [0] (.c (.q 2 [] (.mv (.c (.bool false)))) .nil)) t31_1)
def x_iprogram_isDefinition := b31_0
theorem u31_0 : vcK P x_iprogram_isDefinition k e w = vcK P b31_0 k e w := rfl
def r_iprogram_isDefinition : List XO := [(.mv (.t 2))]
theorem c_iprogram_isDefinition : convF Tryd.prog [27, 28, 29, 30, 32, 36, 40, 45, 46, 47, 50, 51, 52, 61, 62, 98] Tryd.f31 [([0], []), ([2], [])] = some (x_iprogram_isDefinition, r_iprogram_isDefinition) := by kernel_rfl
def us_iprogram_isDefinition :=  (aI @u31_0 @u31_1)
abbrev b47_1 : X := (.cond (.t 64) (.seq (.reg [2, 3] (.c (.q 2 [] (.mv (.s []))) (.c (.q 3 [] (.mv (.c (.bool false)))) .nil))) .ret) .skip)
def t47_1 := b47_1
theorem u47_1 : vcK P t47_1 k e w = vcK P b47_1 k e w := rfl
abbrev b47_2 : X := (.cond (.t 87) (.seq (.reg [2, 3] (.c (.q 2 [] (.mv (.s []))) (.c (.q 3 [] (.mv (.c (.bool false)))) .nil))) .ret) .skip)
def t47_2 := b47_2
theorem u47_2 : vcK P t47_2 k e w = vcK P b47_2 k e w := rfl
abbrev b47_3 : X := (.seq (.reg [2, 3] (.c (.q 88 [] (.mv (.t 4))) (.c (.q 89 [] (.mv (.t 6))) (.c (.q 90 [] (.bin .sub (.t 89) (.c (.int .u8 48)))) (.c (.q 91 [] (.cvi .i64 (.t 90))) (.c (.e (some 92) [] (.call false 41 [(.t 88), (.t 91)])) (.c (.e (some 93) [] (.call false 48 [(.t 92)])) (.c (.q 2 [] (.mv (.t 93))) (.c (.q 3 [] (.mv (.c (.bool true)))) .nil))))))))) .ret)
def t47_3 := b47_3
theorem u47_3 : vcK P t47_3 k e w = vcK P b47_3 k e w := rfl
abbrev b47_4 : X := (.seq (.seq (.reg [4, 6, 87] (.c (.q 82 [] (.mv (.t 6))) (.c (.q 83 [] (.bin .lss (.t 82) (.c (.int .u8 50)))) (.c (.q 84 [] (.mv (.t 83))) (.c (.q 85 [(84, false)] (.mv (.t 6))) (.c (.q 86 [(84, false)] (.bin .gtr (.t 85) (.c (.int .u8 57)))) (.c (.q 87 [] (.pick (.t 84) (.c (.bool true)) (.t 86))) .nil))))))) t47_2) t47_3)
def t47_4 := b47_4
theorem u47_4 : vcK P t47_4 k e w = vcK P b47_4 k e w := rfl
abbrev b47_5 : X := (.seq (.reg [4, 6] (.c (.q 75 [] (.mv (.t 0))) (.c (.q 76 [] (.nil (.t 75))) (.c (.q 77 [] (.fa 1 (.t 76))) (.c (.q 78 [] (.ld (.t 77))) (.c (.q 79 [] (.bin .add (.t 78) (.c (.int .i64 2)))) (.c (.q 80 [] (.nil (.t 75))) (.c (.q 81 [] (.fa 1 (.t 80))) (.c (.e none [] (.st 1 (.t 81) (.t 79))) .nil))))))))) t47_4)
def t47_5 := b47_5
theorem u47_5 : vcK P t47_5 k e w = vcK P b47_5 k e w := rfl
abbrev b47_6 : X := (.seq (.drw [0, 4, 6] (.c (.q 65 [] (.mv (.t 0))) (.c (.q 66 [] (.nil (.t 65))) (.c (.q 67 [] (.fa 0 (.t 66))) (.c (.q 68 [] (.ld (.t 67))) (.c (.q 69 [] (.mv (.t 0))) (.c (.q 70 [] (.nil (.t 69))) (.c (.q 71 [] (.fa 1 (.t 70))) (.c (.q 72 [] (.ld (.t 71))) (.c (.q 73 [] (.bin .add (.t 72) (.c (.int .i64 1)))) (.c (.q 74 [] (.idx (.t 68) (.t 73))) (.c (.q 6 [] (.mv (.t 74))) .nil)))))))))))) t47_5)
def t47_6 := b47_6
theorem u47_6 : vcK P t47_6 k e w = vcK P b47_6 k e w := rfl
abbrev b47_7 : X := (.seq (.seq (.drw [0, 4, 64] (.c (.q 45 [] (.mv (.t 5))) (.c (.q 46 [] (.not (.t 45))) (.c (.q 47 [] (.mv (.t 46))) (.c (.q 48 [(47, false)] (.mv (.t 0))) (.c (.e (some 49) [(47, false)] (.call false 33 [(.t 48), (.c (.int .u8 41))])) (.c (.q 50 [(47, false)] (.not (.t 49))) (.c (.q 51 [] (.pick (.t 47) (.c (.bool true)) (.t 50))) (.c (.q 52 [] (.mv (.t 51))) (.c (.q 53 [(52, false)] (.mv (.t 0))) (.c (.q 54 [(52, false)] (.nil (.t 53))) (.c (.q 55 [(52, false)] (.fa 1 (.t 54))) (.c (.q 56 [(52, false)] (.ld (.t 55))) (.c (.q 57 [(52, false)] (.bin .add (.t 56) (.c (.int .i64 1)))) (.c (.q 58 [(52, false)] (.mv (.t 0))) (.c (.q 59 [(52, false)] (.nil (.t 58))) (.c (.q 60 [(52, false)] (.fa 0 (.t 59))) (.c (.q 61 [(52, false)] (.ld (.t 60))) (.c (.q 62 [(52, false)] (.len (.t 61))) (.c (.q 63 [(52, false)] (.bin .geq (.t 57) (.t 62))) (.c (.q 64 [] (.pick (.t 52) (.c (.bool true)) (.t 63))) .nil))))))))))))))))))))) t47_1) t47_6)
def t47_7 := b47_7
theorem u47_7 : vcK P t47_7 k e w = vcK P b47_7 k e w := rfl
abbrev b47_8 : X := (.seq (.reg [0, 4, 5] (.c (.q 38 [] (.mv (.t 0))) (.c (.q 39 [] (.nil (.t 38))) (.c (.q 40 [] (.fa 4 (.t 39))) (.c (.q 41 [] (.ld (.t 40))) (.c (.q 42 [] (.bin .sub (.t 41) (.c (.int .i64 1)))) (.c (.q 43 [] (.nil (.t 38))) (.c (.q 44 [] (.fa 4 (.t 43))) (.c (.e none [] (.st 1 (.t 44) (.t 42))) .nil))))))))) t47_7)
def t47_8 := b47_8
theorem u47_8 : vcK P t47_8 k e w = vcK P b47_8 k e w := rfl
abbrev b47_9 : X := (.seq (.reg [0, 4, 5] (.c (.q 34 [] (.mv (.t 0))) (.c (.e (some 35) [] (.call true 32 [(.t 34)])) (.c (.q 33 [] (.mv (.t 35))) (.c (.q 36 [] (.ext 0 (.t 33))) (.c (.q 37 [] (.ext 1 (.t 33))) (.c (.q 4 [] (.mv (.t 36))) (.c (.q 5 [] (.mv (.t 37))) .nil)))))))) t47_8)
def t47_9 := b47_9
theorem u47_9 : vcK P t47_9 k e w = vcK P b47_9 k e w := rfl
abbrev b47_10 : X := (.seq (.drw [0] (.c (.q 21 [] (.mv (.t 0))) (.c (.q 22 [] (.mv (.t 0))) (.c (.q 23 [] (.nil (.t 22))) (.c (.q 24 [] (.fa 5 (.t 23))) (.c (.q 25 [] (.ld (.t 24))) (.c (.q 26 [] (.mv (.t 0))) (.c (.q 27 [] (.nil (.t 26))) (.c (.q 28 [] (.fa 4 (.t 27))) (.c (.q 29 [] (.ld (.t 28))) (.c (.q 30 [] (.mx (.t 25) (.t 29))) (.c (.q 31 [] (.nil (.t 21))) (.c (.q 32 [] (.fa 5 (.t 31))) (.c (.e none [] (.st 1 (.t 32) (.t 30))) .nil)))))))))))))) t47_9)
def t47_10 := b47_10
theorem u47_10 : vcK P t47_10 k e w = vcK P b47_10 k e w := rfl
abbrev b47_11 : X := (.seq (.reg [0] (.c (.q 14 [] (.mv (.t 0))) (.c (.q 15 [] (.nil (.t 14))) (.c (.q 16 [] (.fa 4 (.t 15))) (.c (.q 17 [] (.ld (.t 16))) (.c (.q 18 [] (.bin .add (.t 17) (.c (.int .i64 1)))) (.c (.q 19 [] (.nil (.t 14))) (.c (.q 20 [] (.fa 4 (.t 19))) (.c (.e none [] (.st 1 (.t 20) (.t 18))) .nil))))))))) t47_10)
def t47_11 := b47_11
theorem u47_11 : vcK P t47_11 k e w = vcK P b47_11 k e w := rfl
abbrev b47_12 : X := (.seq (.reg [0] (.c (.q 7 [] (.mv (.t 0))) (.c (.q 8 [] (.nil (.t 7))) (.c (.q 9 [] (.fa 1 (.t 8))) (.c (.q 10 [] (.ld (.t 9))) (.c (.q 11 [] (.bin .add (.t 10) (.c (.int .i64 1)))) (.c (.q 12 [] (.nil (.t 7))) (.c (.q 13 [] (.fa 1 (.t 12))) (.c (.e none [] (.st 1 (.t 13) (.t 11))) .nil))))))))) t47_11)
def t47_12 := b47_12
theorem u47_12 : vcK P t47_12 k e w = vcK P b47_12 k e w := rfl
abbrev b47_0 : X := (.seq (.reg [0] (.c (.q 2 [] (.mv (.s []))) (.c (.q 3 [] (.mv (.c (.bool false)))) .nil))) t47_12)
def x_iprogram_repeated := b47_0
theorem u47_0 : vcK P x_iprogram_repeated k e w = vcK P b47_0 k e w := rfl
def r_iprogram_repeated : List XO := [(.mv (.t 2)), (.mv (.t 3))]
theorem c_iprogram_repeated : convF Tryd.prog [27, 28, 29, 30, 32, 36, 40, 45, 46, 47, 50, 51, 52, 61, 62, 98] Tryd.f47 [([0], []), ([0], []), ([0], []), ([0], []), ([0, 4, 5], []), ([0, 4, 5], []), ([0, 4, 64], []), ([2, 3], []), ([0, 4, 6], []), ([4, 6], []), ([4, 6, 87], []), ([2, 3], []), ([2, 3], [])] = some (x_iprogram_repeated, r_iprogram_repeated) := by kernel_rfl
def us_iprogram_repeated :=  (aI (aI (aI @u47_0 (aI @u47_1 @u47_2)) (aI @u47_3 (aI @u47_4 @u47_5))) (aI (aI @u47_6 (aI @u47_7 @u47_8)) (aI (aI @u47_9 @u47_10) (aI @u47_11 @u47_12))))
abbrev b32_1 : X := (.cond (.t 18) .skip (.exit 0))
def t32_1 := b32_1
theorem u32_1 : vcK P t32_1 k e w = vcK P b32_1 k e w := rfl
abbrev b32_2 : X := (.reg [0, 4, 7, 8] (.c (.q 54 [] (.mv (.t 0))) (.c (.q 55 [] (.nil (.t 54))) (.c (.q 56 [] (.fa 1 (.t 55))) (.c (.q 57 [] (.ld (.t 56))) (.c (.q 58 [] (.bin .add (.t 57) (.c (.int .i64 1)))) (.c (.q 59 [] (.nil (.t 54))) (.c (.q 60 [] (.fa 1 (.t 59))) (.c (.e none [] (.st 1 (.t 60) (.t 58))) .nil)))))))))
def t32_2 := b32_2
theorem u32_2 : vcK P t32_2 k e w = vcK P b32_2 k e w := rfl
abbrev b32_3 : X := (.reg [0, 4, 7, 8] (.c (.q 91 [] (.mv (.t 0))) (.c (.q 92 [] (.nil (.t 91))) (.c (.q 93 [] (.fa 1 (.t 92))) (.c (.q 94 [] (.ld (.t 93))) (.c (.q 95 [] (.bin .add (.t 94) (.c (.int .i64 1)))) (.c (.q 96 [] (.nil (.t 91))) (.c (.q 97 [] (.fa 1 (.t 96))) (.c (.e none [] (.st 1 (.t 97) (.t 95))) .nil)))))))))
def t32_3 := b32_3
theorem u32_3 : vcK P t32_3 k e w = vcK P b32_3 k e w := rfl
abbrev b32_4 : X := (.cond (.t 61) (.seq (.drw [0, 4, 7, 8] (.c (.q 77 [] (.mv (.t 0))) (.c (.q 78 [] (.nil (.t 77))) (.c (.q 79 [] (.fa 0 (.t 78))) (.c (.q 80 [] (.ld (.t 79))) (.c (.q 81 [] (.mv (.t 0))) (.c (.q 82 [] (.nil (.t 81))) (.c (.q 83 [] (.fa 1 (.t 82))) (.c (.q 84 [] (.ld (.t 83))) (.c (.q 85 [] (.mv (.t 0))) (.c (.q 86 [] (.nil (.t 85))) (.c (.q 87 [] (.fa 1 (.t 86))) (.c (.q 88 [] (.ld (.t 87))) (.c (.q 89 [] (.bin .add (.t 88) (.c (.int .i64 1)))) (.c (.q 90 [] (.sub (.t 80) (some (.t 84)) (some (.t 89)))) (.c (.q 7 [] (.mv (.t 90))) .nil)))))))))))))))) t32_3) (.seq (.reg [2, 3] (.c (.q 28 [] (.mv (.t 4))) (.c (.q 29 [] (.mv (.t 5))) (.c (.q 2 [] (.mv (.t 28))) (.c (.q 3 [] (.mv (.t 29))) .nil))))) .ret))
def t32_4 := b32_4
theorem u32_4 : vcK P t32_4 k e w = vcK P b32_4 k e w := rfl
abbrev b32_5 : X := (.cond (.t 38) (.seq (.reg [0, 4, 7, 8] (.c (.q 46 [] (.mv (.t 0))) (.c (.q 47 [] (.nil (.t 46))) (.c (.q 48 [] (.fa 2 (.t 47))) (.c (.q 49 [] (.ld (.t 48))) (.c (.q 50 [] (.mv (.t 6))) (.c (.q 51 [] (.mlk true (.int .u8) (S []) (.t 49) (.t 50))) (.c (.q 45 [] (.mv (.t 51))) (.c (.q 52 [] (.ext 0 (.t 45))) (.c (.q 53 [] (.ext 1 (.t 45))) (.c (.q 7 [] (.mv (.t 52))) (.c (.q 8 [] (.mv (.t 53))) .nil)))))))))))) t32_2) (.seq (.drw [0, 4, 5, 8, 61] (.c (.q 62 [] (.mv (.t 0))) (.c (.q 63 [] (.nil (.t 62))) (.c (.q 64 [] (.fa 0 (.t 63))) (.c (.q 65 [] (.ld (.t 64))) (.c (.q 66 [] (.mv (.t 0))) (.c (.q 67 [] (.nil (.t 66))) (.c (.q 68 [] (.fa 1 (.t 67))) (.c (.q 69 [] (.ld (.t 68))) (.c (.q 70 [] (.mv (.t 0))) (.c (.q 71 [] (.nil (.t 70))) (.c (.q 72 [] (.fa 1 (.t 71))) (.c (.q 73 [] (.ld (.t 72))) (.c (.q 74 [] (.bin .add (.t 73) (.c (.int .i64 1)))) (.c (.q 75 [] (.sub (.t 65) (some (.t 69)) (some (.t 74)))) (.c (.e (some 76) [] (.call false 34 [(.t 75)])) (.c (.q 61 [] (.mv (.t 76))) .nil))))))))))))))))) t32_4))
def t32_5 := b32_5
theorem u32_5 : vcK P t32_5 k e w = vcK P b32_5 k e w := rfl
abbrev b32_6 : X := (.cond (.t 30) (.reg [0, 4, 7, 8] (.c (.q 34 [] (.mv (.t 0))) (.c (.e (some 35) [] (.call true 47 [(.t 34)])) (.c (.q 33 [] (.mv (.t 35))) (.c (.q 36 [] (.ext 0 (.t 33))) (.c (.q 37 [] (.ext 1 (.t 33))) (.c (.q 7 [] (.mv (.t 36))) (.c (.q 8 [] (.mv (.t 37))) .nil)))))))) (.seq (.reg [0, 4, 5, 6, 8, 38] (.c (.q 39 [] (.mv (.t 6))) (.c (.q 40 [] (.bin .geq (.t 39) (.c (.int .u8 65)))) (.c (.q 41 [] (.mv (.t 40))) (.c (.q 42 [(41, true)] (.mv (.t 6))) (.c (.q 43 [(41, true)] (.bin .leq (.t 42) (.c (.int .u8 90)))) (.c (.q 44 [] (.pick (.t 41) (.t 43) (.c (.bool false)))) (.c (.q 38 [] (.mv (.t 44))) .nil)))))))) t32_5))
def t32_6 := b32_6
theorem u32_6 : vcK P t32_6 k e w = vcK P b32_6 k e w := rfl
abbrev b32_7 : X := (.cond (.t 99) (.seq (.reg [2, 3] (.c (.q 2 [] (.mv (.s []))) (.c (.q 3 [] (.mv (.c (.bool false)))) .nil))) .ret) .skip)
def t32_7 := b32_7
theorem u32_7 : vcK P t32_7 k e w = vcK P b32_7 k e w := rfl
abbrev b32_8 : X := (.reg [0, 4] (.c (.q 100 [] (.mv (.t 4))) (.c (.q 101 [] (.mv (.t 7))) (.c (.q 102 [] (.bin .add (.t 100) (.t 101))) (.c (.e (some 103) [] (.call false 48 [(.t 102)])) (.c (.q 4 [] (.mv (.t 103))) .nil))))))
def t32_8 := b32_8
theorem u32_8 : vcK P t32_8 k e w = vcK P b32_8 k e w := rfl
abbrev b32_9 : X := (.seq (.seq (.reg [0, 4, 7, 99] (.c (.q 98 [] (.mv (.t 8))) (.c (.q 99 [] (.not (.t 98))) .nil))) t32_7) t32_8)
def t32_9 := b32_9
theorem u32_9 : vcK P t32_9 k e w = vcK P b32_9 k e w := rfl
abbrev b32_10 : X := (.seq (.blk 2 (.seq (.reg [0, 4, 5, 6, 8, 30] (.c (.q 31 [] (.mv (.t 6))) (.c (.q 32 [] (.bin .eql (.t 31) (.c (.int .u8 40)))) (.c (.q 30 [] (.mv (.t 32))) .nil)))) t32_6)) t32_9)
def t32_10 := b32_10
theorem u32_10 : vcK P t32_10 k e w = vcK P b32_10 k e w := rfl
abbrev b32_11 : X := (.seq (.reg [0, 4, 5, 6, 8] (.c (.q 7 [] (.mv (.s []))) (.c (.q 8 [] (.mv (.c (.bool true)))) .nil))) t32_10)
def t32_11 := b32_11
theorem u32_11 : vcK P t32_11 k e w = vcK P b32_11 k e w := rfl
abbrev b32_12 : X := (.reg [0, 4, 5] (.c (.q 5 [] (.mv (.c (.bool true)))) .nil))
def t32_12 := b32_12
theorem u32_12 : vcK P t32_12 k e w = vcK P b32_12 k e w := rfl
abbrev b32_13 : X := (.seq (.blk 1 (.seq (.drw [0, 4, 5, 6] (.c (.q 19 [] (.mv (.t 0))) (.c (.q 20 [] (.nil (.t 19))) (.c (.q 21 [] (.fa 0 (.t 20))) (.c (.q 22 [] (.ld (.t 21))) (.c (.q 23 [] (.mv (.t 0))) (.c (.q 24 [] (.nil (.t 23))) (.c (.q 25 [] (.fa 1 (.t 24))) (.c (.q 26 [] (.ld (.t 25))) (.c (.q 27 [] (.idx (.t 22) (.t 26))) (.c (.q 6 [] (.mv (.t 27))) .nil))))))))))) t32_11)) t32_12)
def t32_13 := b32_13
theorem u32_13 : vcK P t32_13 k e w = vcK P b32_13 k e w := rfl
abbrev b32_14 : X := (.seq (.seq (.drw [0, 4, 5, 18] (.c (.q 9 [] (.mv (.t 0))) (.c (.q 10 [] (.nil (.t 9))) (.c (.q 11 [] (.fa 1 (.t 10))) (.c (.q 12 [] (.ld (.t 11))) (.c (.q 13 [] (.mv (.t 0))) (.c (.q 14 [] (.nil (.t 13))) (.c (.q 15 [] (.fa 0 (.t 14))) (.c (.q 16 [] (.ld (.t 15))) (.c (.q 17 [] (.len (.t 16))) (.c (.q 18 [] (.bin .lss (.t 12) (.t 17))) .nil))))))))))) t32_1) t32_13)
def t32_14 := b32_14
theorem u32_14 : vcK P t32_14 k e w = vcK P b32_14 k e w := rfl
abbrev b32_15 : X := (.seq (.reg [2, 3] (.c (.q 104 [] (.mv (.t 4))) (.c (.q 105 [] (.mv (.t 5))) (.c (.q 2 [] (.mv (.t 104))) (.c (.q 3 [] (.mv (.t 105))) .nil))))) .ret)
def t32_15 := b32_15
theorem u32_15 : vcK P t32_15 k e w = vcK P b32_15 k e w := rfl
abbrev b32_16 : X := (.seq (.blk 0 (.loop [4, 5] [0] t32_14)) t32_15)
def t32_16 := b32_16
theorem u32_16 : vcK P t32_16 k e w = vcK P b32_16 k e w := rfl
abbrev b32_17 : X := (.seq (.reg [0, 4, 5] (.c (.q 4 [] (.mv (.s []))) (.c (.q 5 [] (.mv (.c (.bool false)))) .nil))) t32_16)
def t32_17 := b32_17
theorem u32_17 : vcK P t32_17 k e w = vcK P b32_17 k e w := rfl
abbrev b32_0 : X := (.seq (.reg [0] (.c (.q 2 [] (.mv (.s []))) (.c (.q 3 [] (.mv (.c (.bool false)))) .nil))) t32_17)
def x_iprogram_block := b32_0
theorem u32_0 : vcK P x_iprogram_block k e w = vcK P b32_0 k e w := rfl
def r_iprogram_block : List XO := [(.mv (.t 2)), (.mv (.t 3))]
theorem c_iprogram_block : convF Tryd.prog [27, 28, 29, 30, 32, 36, 40, 45, 46, 47, 50, 51, 52, 61, 62, 98] Tryd.f32 [([0], []), ([0, 4, 5], []), ([4, 5], [0]), ([0, 4, 5, 18], []), ([0, 4, 5, 6], []), ([0, 4, 5, 6, 8], []), ([0, 4, 5, 6, 8, 30], []), ([0, 4, 7, 8], []), ([0, 4, 5, 6, 8, 38], []), ([0, 4, 7, 8], []), ([0, 4, 7, 8], []), ([0, 4, 5, 8, 61], []), ([0, 4, 7, 8], []), ([0, 4, 7, 8], []), ([2, 3], []), ([0, 4, 7, 99], []), ([2, 3], []), ([0, 4], []), ([0, 4, 5], []), ([2, 3], [])] = some (x_iprogram_block, r_iprogram_block) := by kernel_rfl
def us_iprogram_block :=  (aI (aI (aI (aI @u32_0 @u32_1) (aI @u32_2 @u32_3)) (aI (aI @u32_4 @u32_5) (aI @u32_6 (aI @u32_7 @u32_8)))) (aI (aI (aI @u32_9 @u32_10) (aI @u32_11 @u32_12)) (aI (aI @u32_13 @u32_14) (aI @u32_15 (aI @u32_16 @u32_17)))))
end

theorem xstrings_Repeat_ok (s : List UInt8) (c : Nat) (hc : c ≤ 9223372036854775807) (hl : s.length * c ≤ 140737488355328) (w : World) : Fn 41 [S s, .int .i64 c] w (fun r _ => r = S (Lib.repeatL s c)) :=
  Calls.mono (Tryd.strings_Repeat ⟨⟨s⟩⟩ c w hc hl) fun _ _ ⟨he, hb⟩ => ⟨_, he, hb, rfl⟩
def IsCallB (c : UInt8) : Prop := c.toNat = 112 ∨ c.toNat = 98 ∨ c.toNat = 115
instance (c : UInt8) : Decidable (IsCallB c) := by unfold IsCallB; infer_instance
theorem iisCall_ok (l : List UInt8) (w : World) : Fn 49 [S l] w (fun r _ => r = .bool (decide (l = [112] ∨ l = [98] ∨ l = [115]))) := by
  (refine callsV_of mix Tryd.func49 c_iisCall ?_; simp only [↓vsd, vsn, gW, qd, qv, ev, pick, argE, zipE, ne_eq, eq_self, forall_const, implies_true, if_true, if_false, reduceIte, reduceCtorEq, Nat.reduceEqDiff, Nat.reduceAdd, Nat.reduceLT, ↓us_iisCall, r_iisCall])
  refine ⟨Ext.refl _, ?_⟩
  simp only [← Bool.decide_or, or_assoc]
theorem icut_ok (l : List UInt8) (hl : l.length ≤ 1000000000) (w : World) : Fn 48 [S l] w (fun r _ => r = S (l.take 61)) := by
  (refine callsV_of mix Tryd.func48 c_icut ?_; simp only [↓vsd, vsn, gW, qd, qv, ev, pick, argE, zipE, ne_eq, eq_self, forall_const, implies_true, if_true, if_false, reduceIte, reduceCtorEq, Nat.reduceEqDiff, Nat.reduceAdd, Nat.reduceLT, ↓us_icut, r_icut])
  have e : (if 61 < (l.length : Int) then (61 : Int) else (l.length : Int)) = ((min l.length 61 : Nat) : Int) := by split <;> omega
  rw [e]
  refine ⟨by omega, Ext.refl _, ?_⟩
  congr 1
  rw [Int.toNat_natCast]
  by_cases h : l.length ≤ 61
  · rw [Nat.min_eq_left h, List.take_length, List.take_of_length_le h]
  · rw [Nat.min_eq_right (by omega)]
theorem iareCalls_one (c : UInt8) (w : World) : Fn 34 [S [c]] w (fun r _ => r = .bool (decide (IsCallB c))) := by
  (refine callsV_of mix Tryd.func34 c_iareCalls ?_; simp only [↓vsd, vsn, gW, qd, qv, ev, pick, argE, zipE, ne_eq, eq_self, forall_const, implies_true, if_true, if_false, reduceIte, reduceCtorEq, Nat.reduceEqDiff, Nat.reduceAdd, Nat.reduceLT, ↓us_iareCalls, r_iareCalls])
  refine m_upto 1 (fun k vs w' => vs = [.int .i64 k] ∧ (0 < k → IsCallB c) ∧ Ext w w') ⟨rfl, fun h => by omega, Ext.refl _⟩ ?_
  rintro k vs w1 hk ⟨rfl, hc, hx⟩
  by_cases hlt : k < 1
  · obtain rfl : k = 0 := by omega
    have hltI : ((0 : Nat) : Int) < ((1 : Nat) : Int) := by decide
    have hltJ : ¬ ((1 : Nat) : Int) ≤ ((0 : Nat) : Int) := by decide
    simp only [↓vsd, vsn, gW, qd, qv, ev, pick, argE, zipE, ne_eq, eq_self, forall_const, implies_true, if_true, if_false, reduceIte, reduceCtorEq, Nat.reduceEqDiff, Nat.reduceAdd, Nat.reduceLT, ↓us_iareCalls, r_iareCalls, hltI, hltJ]
    refine ⟨inR_i64 (by decide), by decide, m_call (iisCall_ok _ _) ?_⟩
    rintro _ w2 hx2 rfl
    have e : (List.drop 0 (List.take 1 [c]) = [112] ∨ List.drop 0 (List.take 1 [c]) = [98] ∨ List.drop 0 (List.take 1 [c]) = [115]) = IsCallB c := by
      have h1 (n : Nat) (hn : n < 256) : (c.toNat = n) = (c = UInt8.ofNat n) := propext ⟨fun h => u8_eq h, fun h => by rw [h, u8_nat hn]⟩
      simp only [List.take_succ_cons, List.take_nil, List.drop_zero, List.cons.injEq, and_true, IsCallB, h1 112 (by decide), h1 98 (by decide), h1 115 (by decide)]
      rfl
    simp only [↓vsd, vsn, gW, qd, qv, ev, pick, argE, zipE, ne_eq, eq_self, forall_const, implies_true, if_true, if_false, reduceIte, reduceCtorEq, Nat.reduceEqDiff, Nat.reduceAdd, Nat.reduceLT, ↓us_iareCalls, r_iareCalls, e]
    refine ⟨fun hno => ⟨hx.trans hx2, by simp only [hno, decide_false]⟩, fun hy => ⟨inR_i64 (by decide), UpTo.next hlt ⟨rfl, fun _ => hy, hx.trans hx2⟩⟩⟩
  · obtain rfl : k = 1 := by omega
    have hltI : ¬ ((1 : Nat) : Int) < ((1 : Nat) : Int) := by decide
    simp only [↓vsd, vsn, gW, qd, qv, ev, pick, argE, zipE, ne_eq, eq_self, forall_const, implies_true, if_true, if_false, reduceIte, reduceCtorEq, Nat.reduceEqDiff, Nat.reduceAdd, Nat.reduceLT, ↓us_iareCalls, r_iareCalls, hltI]
    exact ⟨hx, by simp [hc]⟩
/-- A reader's cells. -/
def fP (s : List UInt8) (a : Int) (mp nm : Value) (dep most : Int) : List Value := [S s, .int .i64 a, mp, nm, .int .i64 dep, .int .i64 most]
theorem fPg (s : List UInt8) (a : Int) (mp nm : Value) (dep most : Int) : (∀ u, (fP s a mp nm dep most).getD 0 u = S s) ∧ (∀ u, (fP s a mp nm dep most).getD 1 u = .int .i64 a) ∧ (∀ u, (fP s a mp nm dep most).getD 2 u = mp) ∧ (∀ u, (fP s a mp nm dep most).getD 3 u = nm) ∧
    (∀ u, (fP s a mp nm dep most).getD 4 u = .int .i64 dep) ∧ (∀ u, (fP s a mp nm dep most).getD 5 u = .int .i64 most) ∧ (fP s a mp nm dep most).length = 6 := ⟨fun _ => rfl, fun _ => rfl, fun _ => rfl, fun _ => rfl, fun _ => rfl, fun _ => rfl, rfl⟩
/-- The entries of the known names. -/
def knE (kn : List (UInt8 × List UInt8)) : List (Value × Value) := kn.map fun p => (.int .u8 (p.1.toNat : Nat), S p.2)
theorem mapAt_grown {w w' : World} {m : Nat} {en : List (Value × Value)} {r : Option Nat} (h : mapAt w (.map (some m)) = some en) (hg : w.grownBy w' r) (hne : some m ≠ r) : mapAt w' (.map (some m)) = some en := by
  simp only [mapAt] at h ⊢
  cases hb : w.heap[m]? with
  | none => rw [hb] at h; cases h
  | some o =>
    have hlt := (Array.getElem?_eq_some_iff.1 hb).1
    rw [hg.block m hlt hne]
    exact h
theorem gdrw {w w' : World} {r : Option Nat} (h : w.grownBy w' r) : w.grownBy w'.drew r := ⟨h.os, h.tape, h.output, h.size, h.block⟩
theorem gudw {w w' : World} {r : Option Nat} (h : w.drew.grownBy w' r) : w.grownBy w' r := ⟨h.os, h.tape, h.output, h.size, h.block⟩
theorem iprogram_next_ok (s : List UInt8) (a : Nat) (mp nm : Value) (dep most : Int) (b : Nat) (c : UInt8) (w : World) (hb : Blk w b (fP s a mp nm dep most) 44) :
    Fn 33 [.pointer (some ⟨b, 0, none⟩), .int .u8 c.toNat] w (fun r _ => r = .bool (decide (a < s.length ∧ (s.getD a 0).toNat = c.toNat))) := by
  (refine callsV_of mix Tryd.func33 c_iprogram_next ?_; simp only [↓vsd, vsn, gW, qd, qv, ev, pick, argE, zipE, ne_eq, eq_self, forall_const, implies_true, if_true, if_false, reduceIte, reduceCtorEq, Nat.reduceEqDiff, Nat.reduceAdd, Nat.reduceLT, ↓us_iprogram_next, r_iprogram_next])
  simp only [↓vsd, vsn, gW, qd, qv, ev, pick, argE, zipE, ne_eq, eq_self, forall_const, implies_true, if_true, if_false, reduceIte, reduceCtorEq, Nat.reduceEqDiff, Nat.reduceAdd, Nat.reduceLT, ↓us_iprogram_next, r_iprogram_next, hb.facts, fPg]
  refine ⟨fun _ => by omega, Ext.refl _, ?_⟩
  rw [← Bool.decide_and]
  congr 1
  exact propext ⟨fun h => ⟨by omega, by omega⟩, fun h => ⟨by omega, by omega⟩⟩
theorem iprogram_isDefinition_ok (s : List UInt8) (a : Nat) (ha : a ≤ 100000) (mp nm : Value) (dep most : Int) (b : Nat) (w : World) (hb : Blk w b (fP s a mp nm dep most) 44) :
    Fn 31 [.pointer (some ⟨b, 0, none⟩)] w (fun r _ => r = .bool (decide (a + 1 < s.length ∧ (65 ≤ (s.getD a 0).toNat ∧ (s.getD a 0).toNat ≤ 90) ∧ (s.getD (a + 1) 0).toNat = 61))) := by
  (refine callsV_of mix Tryd.func31 c_iprogram_isDefinition ?_; simp only [↓vsd, vsn, gW, qd, qv, ev, pick, argE, zipE, ne_eq, eq_self, forall_const, implies_true, if_true, if_false, reduceIte, reduceCtorEq, Nat.reduceEqDiff, Nat.reduceAdd, Nat.reduceLT, ↓us_iprogram_isDefinition, r_iprogram_isDefinition])
  simp only [↓vsd, vsn, gW, qd, qv, ev, pick, argE, zipE, ne_eq, eq_self, forall_const, implies_true, if_true, if_false, reduceIte, reduceCtorEq, Nat.reduceEqDiff, Nat.reduceAdd, Nat.reduceLT, ↓us_iprogram_isDefinition, r_iprogram_isDefinition, hb.facts, fPg]
  refine ⟨inR_i64 (by omega), fun _ => by omega, fun _ => by omega, fun _ => inR_i64 (by omega), fun _ => by omega, Ext.refl _, ?_⟩
  simp only [← Bool.decide_and]
  congr 1
  exact propext ⟨fun h => ⟨by omega, by omega, by omega⟩, fun h => ⟨⟨⟨by omega, by omega⟩, by omega⟩, by omega⟩⟩
/-- What a block's reading leaves. -/
def BlkOut (s : List UInt8) (mp nm : Value) (dep b : Nat) (a : Nat) (w : World) (R : Option (List UInt8 × Nat × Nat)) (r : Value) (w' : World) : Prop := ∃ a' most' : Nat, Blk w' b (fP s a' mp nm dep most') 44 ∧ w.grownBy w' (some b) ∧ a ≤ a' ∧ a' ≤ s.length ∧ most' ≤ 600 ∧
  match R with
  | some (out, a1, most1) => r = .tuple ⟨[S out, .bool true]⟩ ∧ a' = a1 ∧ most' = most1 ∧ out.length ≤ 61
  | none => (∃ o, r = .tuple ⟨[S o, .bool false]⟩) ∨ ∃ o, r = .tuple ⟨[S o, .bool true]⟩ ∧ a' < s.length ∧ (s.getD a' 0).toNat ≠ 41 ∧ (s.getD a' 0).toNat ≠ 59
def BlockOk (f : Nat) : Prop := ∀ (s : List UInt8) (kn : List (UInt8 × List UInt8)) (km : Nat) (nm : Value) (dep most a b : Nat) (w : World), s.length - a < f → a ≤ s.length → s.length ≤ 200 → dep + (s.length - a) ≤ 600 → most ≤ 600 → (∀ p ∈ kn, p.2.length ≤ 61) → km ≠ b →
  Blk w b (fP s a (.map (some km)) nm dep most) 44 → mapAt w (.map (some km)) = some (knE kn) → CallsV Tryd.prog 32 [.pointer (some ⟨b, 0, none⟩)] w (BlkOut s (.map (some km)) nm dep b a w (blk s kn f a [] false dep most))
theorem iprogram_repeated_ok (f : Nat) (hB : BlockOk f) (s : List UInt8) (kn : List (UInt8 × List UInt8)) (km : Nat) (nm : Value) (dep most a b : Nat) (w : World) (hf : s.length - a < f + 1) (ha : a < s.length) (hs : s.length ≤ 200) (hd : dep + (s.length - a) ≤ 600) (hm : most ≤ 600) (hkn : ∀ p ∈ kn, p.2.length ≤ 61) (hkb : km ≠ b)
    (hb : Blk w b (fP s a (.map (some km)) nm dep most) 44) (hmp : mapAt w (.map (some km)) = some (knE kn)) :
    CallsV Tryd.prog 47 [.pointer (some ⟨b, 0, none⟩)] w (fun r w' => ∃ a' most' : Nat, Blk w' b (fP s a' (.map (some km)) nm dep most') 44 ∧ w.grownBy w' (some b) ∧ a ≤ a' ∧ a' ≤ s.length ∧ most' ≤ 600 ∧
      match blk s kn f (a + 1) [] false (dep + 1) (max most (dep + 1)) with
      | none => ∃ o, r = .tuple ⟨[S o, .bool false]⟩
      | some (part, a1, most1) =>
        if a1 + 1 < s.length ∧ (s.getD a1 0).toNat = 41 ∧ 50 ≤ (s.getD (a1 + 1) 0).toNat ∧ (s.getD (a1 + 1) 0).toNat ≤ 57 then
          r = .tuple ⟨[S ((Lib.repeatL part ((s.getD (a1 + 1) 0).toNat - 48)).take 61), .bool true]⟩ ∧ a' = a1 + 2 ∧ most' = most1
        else ∃ o, r = .tuple ⟨[S o, .bool false]⟩) := by
  (refine callsV_of mix Tryd.func47 c_iprogram_repeated ?_; simp only [↓vsd, vsn, gW, qd, qv, ev, pick, argE, zipE, ne_eq, eq_self, forall_const, implies_true, if_true, if_false, reduceIte, reduceCtorEq, Nat.reduceEqDiff, Nat.reduceAdd, Nat.reduceLT, ↓us_iprogram_repeated, r_iprogram_repeated])
  simp only [↓vsd, vsn, gW, qd, qv, ev, pick, argE, zipE, ne_eq, eq_self, forall_const, implies_true, if_true, if_false, reduceIte, reduceCtorEq, Nat.reduceEqDiff, Nat.reduceAdd, Nat.reduceLT, ↓us_iprogram_repeated, r_iprogram_repeated, hb.facts, fPg]
  refine ⟨inR_i64 (by omega), m_st hb rfl (by decide : 1 + 1 ≤ 6) (fI_one _) ?_⟩
  rintro w1 hb1' hu1
  have hb1 : Blk w1 b (fP s (a + 1 : Nat) (.map (some km)) nm dep most) 44 := hb1'
  simp only [↓vsd, vsn, gW, qd, qv, ev, pick, argE, zipE, ne_eq, eq_self, forall_const, implies_true, if_true, if_false, reduceIte, reduceCtorEq, Nat.reduceEqDiff, Nat.reduceAdd, Nat.reduceLT, ↓us_iprogram_repeated, r_iprogram_repeated, hb1.facts, fPg]
  refine ⟨inR_i64 (by omega), m_st hb1 rfl (by decide : 4 + 1 ≤ 6) (fI_one _) ?_⟩
  rintro w2 hb2' hu2
  have hb2 : Blk w2 b (fP s (a + 1 : Nat) (.map (some km)) nm (dep + 1 : Nat) most) 44 := hb2'
  have hmx : (if (most : Int) < ((dep + 1 : Nat) : Int) then ((dep + 1 : Nat) : Int) else (most : Int)) = ((max most (dep + 1) : Nat) : Int) := by split <;> omega
  simp only [↓vsd, vsn, gW, qd, qv, ev, pick, argE, zipE, ne_eq, eq_self, forall_const, implies_true, if_true, if_false, reduceIte, reduceCtorEq, Nat.reduceEqDiff, Nat.reduceAdd, Nat.reduceLT, ↓us_iprogram_repeated, r_iprogram_repeated, hb2.facts, fPg, hmx]
  have hb2d : Blk w2.drew b (fP s (a + 1 : Nat) (.map (some km)) nm (dep + 1 : Nat) most) 44 := hb2
  refine m_st hb2d rfl (by decide : 5 + 1 ≤ 6) (fI_one _) ?_
  rintro w3 hb3' hu3
  have hb3 : Blk w3 b (fP s (a + 1 : Nat) (.map (some km)) nm (dep + 1 : Nat) (max most (dep + 1) : Nat)) 44 := hb3'
  have hg3 : w.grownBy w3 (some b) := grown_trans (grown_trans hu1.grown hu2.grown) (gudw hu3.grown)
  have hmp3 : mapAt w3 (.map (some km)) = some (knE kn) := mapAt_grown hmp hg3 (by simpa using hkb)
  simp only [↓vsd, vsn, gW, qd, qv, ev, pick, argE, zipE, ne_eq, eq_self, forall_const, implies_true, if_true, if_false, reduceIte, reduceCtorEq, Nat.reduceEqDiff, Nat.reduceAdd, Nat.reduceLT, ↓us_iprogram_repeated, r_iprogram_repeated]
  have hcall := hB s kn km nm (dep + 1) (max most (dep + 1)) (a + 1) b w3 (by omega) (by omega) hs (by omega) (by omega) hkn hkb hb3 hmp3
  refine m_callw (.inl rfl) hcall ?_
  rintro r w4 ⟨a4, most4, hb4, hg4, ha4, hal4, hmm4, hR⟩
  have hg14 := grown_trans hg3 hg4
  cases hblk : blk s kn f (a + 1) [] false (dep + 1) (max most (dep + 1)) with
  | none =>
    rw [hblk] at hR
    rcases hR with ⟨o, rfl⟩ | ⟨o, rfl, hlt4, hne1, hne2⟩
    · simp only [↓vsd, vsn, gW, qd, qv, ev, pick, argE, zipE, ne_eq, eq_self, forall_const, implies_true, if_true, if_false, reduceIte, reduceCtorEq, Nat.reduceEqDiff, Nat.reduceAdd, Nat.reduceLT, ↓us_iprogram_repeated, r_iprogram_repeated, hb4.facts, fPg]
      refine ⟨inR_i64 (by omega), m_st hb4 rfl (by decide : 4 + 1 ≤ 6) (fI_one _) ?_⟩
      rintro w5 hb5' hu5
      have hb5 : Blk w5 b (fP s a4 (.map (some km)) nm dep most4) 44 := by
        have e : ((dep + 1 : Nat) : Int) - 1 = (dep : Nat) := by omega
        rw [e] at hb5'
        exact hb5'
      have hg5 := grown_trans hg14 hu5.grown
      simp only [↓vsd, vsn, gW, qd, qv, ev, pick, argE, zipE, ne_eq, eq_self, forall_const, implies_true, if_true, if_false, reduceIte, reduceCtorEq, Nat.reduceEqDiff, Nat.reduceAdd, Nat.reduceLT, ↓us_iprogram_repeated, r_iprogram_repeated, hb5.facts, fPg]
      exact ⟨a4, most4, hb5, gdrw hg5, by omega, by omega, by omega, _, rfl⟩
    · simp only [↓vsd, vsn, gW, qd, qv, ev, pick, argE, zipE, ne_eq, eq_self, forall_const, implies_true, if_true, if_false, reduceIte, reduceCtorEq, Nat.reduceEqDiff, Nat.reduceAdd, Nat.reduceLT, ↓us_iprogram_repeated, r_iprogram_repeated, hb4.facts, fPg]
      refine ⟨inR_i64 (by omega), m_st hb4 rfl (by decide : 4 + 1 ≤ 6) (fI_one _) ?_⟩
      rintro w5 hb5' hu5
      have hb5 : Blk w5 b (fP s a4 (.map (some km)) nm dep most4) 44 := by
        have e : ((dep + 1 : Nat) : Int) - 1 = (dep : Nat) := by omega
        rw [e] at hb5'
        exact hb5'
      have hg5 := grown_trans hg14 hu5.grown
      simp only [↓vsd, vsn, gW, qd, qv, ev, pick, argE, zipE, ne_eq, eq_self, forall_const, implies_true, if_true, if_false, reduceIte, reduceCtorEq, Nat.reduceEqDiff, Nat.reduceAdd, Nat.reduceLT, ↓us_iprogram_repeated, r_iprogram_repeated, hb5.facts, fPg]
      refine m_call (iprogram_next_ok s a4 _ _ _ _ b 41 _ hb5) ?_
      rintro _ w6 hx6 rfl
      have hx6 := ud hx6
      have hb6 := hb5.ext hx6
      have hno : decide (a4 < s.length ∧ (s.getD a4 0).toNat = (41 : UInt8).toNat) = false := decide_eq_false fun h => hne1 h.2
      simp only [↓vsd, vsn, gW, qd, qv, ev, pick, argE, zipE, ne_eq, eq_self, forall_const, implies_true, if_true, if_false, reduceIte, reduceCtorEq, Nat.reduceEqDiff, Nat.reduceAdd, Nat.reduceLT, ↓us_iprogram_repeated, r_iprogram_repeated, hb5.facts, hb6.facts, fPg, hno]
      exact ⟨a4, most4, hb6, grown_trans hg5 (grown_ext _ hx6), by omega, by omega, by omega, _, rfl⟩
  | some p =>
    obtain ⟨part, a1, most1⟩ := p
    rw [hblk] at hR
    obtain ⟨rfl, rfl, rfl, hpl⟩ := hR
    simp only [↓vsd, vsn, gW, qd, qv, ev, pick, argE, zipE, ne_eq, eq_self, forall_const, implies_true, if_true, if_false, reduceIte, reduceCtorEq, Nat.reduceEqDiff, Nat.reduceAdd, Nat.reduceLT, ↓us_iprogram_repeated, r_iprogram_repeated, hb4.facts, fPg]
    refine ⟨inR_i64 (by omega), m_st hb4 rfl (by decide : 4 + 1 ≤ 6) (fI_one _) ?_⟩
    rintro w5 hb5' hu5
    have hb5 : Blk w5 b (fP s a4 (.map (some km)) nm dep most4) 44 := by
      have e : ((dep + 1 : Nat) : Int) - 1 = (dep : Nat) := by omega
      rw [e] at hb5'
      exact hb5'
    have hg5 := grown_trans hg14 hu5.grown
    simp only [↓vsd, vsn, gW, qd, qv, ev, pick, argE, zipE, ne_eq, eq_self, forall_const, implies_true, if_true, if_false, reduceIte, reduceCtorEq, Nat.reduceEqDiff, Nat.reduceAdd, Nat.reduceLT, ↓us_iprogram_repeated, r_iprogram_repeated, hb5.facts, fPg]
    refine m_call (iprogram_next_ok s a4 _ _ _ _ b 41 _ hb5) ?_
    rintro _ w6 hx6 rfl
    have hx6 := ud hx6
    have hb6 := hb5.ext hx6
    have hg6 := grown_trans hg5 (grown_ext _ hx6)
    by_cases h41 : a4 < s.length ∧ (s.getD a4 0).toNat = (41 : UInt8).toNat
    · have hyes : decide (a4 < s.length ∧ (s.getD a4 0).toNat = (41 : UInt8).toNat) = true := decide_eq_true h41
      simp only [↓vsd, vsn, gW, qd, qv, ev, pick, argE, zipE, ne_eq, eq_self, forall_const, implies_true, if_true, if_false, reduceIte, reduceCtorEq, Nat.reduceEqDiff, Nat.reduceAdd, Nat.reduceLT, ↓us_iprogram_repeated, r_iprogram_repeated, hb5.facts, hb6.facts, fPg, hyes]
      have h41' : (s.getD a4 0).toNat = 41 := h41.2
      refine ⟨inR_i64 (by omega), fun hend => ⟨a4, most4, hb6, hg6, by omega, by omega, by omega, ?_⟩, fun hlt => ?_⟩
      · rw [if_neg (by omega)]
        exact ⟨_, rfl⟩
      · refine ⟨inR_i64 (by omega), by omega, inR_i64 (by omega), ?_⟩
        have hb6d : Blk w6.drew b (fP s a4 (.map (some km)) nm dep most4) 44 := hb6
        refine m_st hb6d rfl (by decide : 1 + 1 ≤ 6) (fI_one _) ?_
        rintro w7 hb7' hu7
        have hb7 : Blk w7 b (fP s (a4 + 2 : Nat) (.map (some km)) nm dep most4) 44 := hb7'
        have hg7 : w.grownBy w7 (some b) := grown_trans hg6 (gudw hu7.grown)
        simp only [↓vsd, vsn, gW, qd, qv, ev, pick, argE, zipE, ne_eq, eq_self, forall_const, implies_true, if_true, if_false, reduceIte, reduceCtorEq, Nat.reduceEqDiff, Nat.reduceAdd, Nat.reduceLT, ↓us_iprogram_repeated, r_iprogram_repeated]
        refine ⟨fun hbad => ⟨a4 + 2, most4, hb7, hg7, by omega, by omega, by omega, ?_⟩, fun hgood => ?_⟩
        · rw [if_neg (by omega)]
          exact ⟨_, rfl⟩
        · obtain ⟨q, hq⟩ : ∃ q, (s.getD (a4 + 1) 0).toNat = 48 + q := ⟨(s.getD (a4 + 1) 0).toNat - 48, by omega⟩
          have e48 : ((s.getD (a4 + 1) 0).toNat : Int) - 48 = (q : Nat) := by omega
          have e48' : (s.getD (a4 + 1) 0).toNat - 48 = q := by omega
          rw [e48, e48']
          have hpq : part.length * q ≤ 61 * 9 := Nat.mul_le_mul hpl (by omega)
          refine ⟨inR_u8 (by omega), inR_i64 (by omega), m_call (xstrings_Repeat_ok part q (by omega) (by omega) _) ?_⟩
          rintro _ w8 hx8 rfl
          have hrl := Lib.repeatL_length part q
          rw [Nat.mul_comm] at hrl
          simp only [↓vsd, vsn, gW, qd, qv, ev, pick, argE, zipE, ne_eq, eq_self, forall_const, implies_true, if_true, if_false, reduceIte, reduceCtorEq, Nat.reduceEqDiff, Nat.reduceAdd, Nat.reduceLT, ↓us_iprogram_repeated, r_iprogram_repeated]
          refine m_call (icut_ok _ (by omega) _) ?_
          rintro _ w9 hx9 rfl
          simp only [↓vsd, vsn, gW, qd, qv, ev, pick, argE, zipE, ne_eq, eq_self, forall_const, implies_true, if_true, if_false, reduceIte, reduceCtorEq, Nat.reduceEqDiff, Nat.reduceAdd, Nat.reduceLT, ↓us_iprogram_repeated, r_iprogram_repeated]
          refine ⟨a4 + 2, most4, hb7.ext (hx8.trans hx9), grown_trans hg7 (grown_ext _ (hx8.trans hx9)), by omega, by omega, by omega, ?_⟩
          rw [if_pos (by omega)]
          first | rfl | exact ⟨rfl, rfl, rfl⟩ | simp
    · have hno : decide (a4 < s.length ∧ (s.getD a4 0).toNat = (41 : UInt8).toNat) = false := decide_eq_false h41
      simp only [↓vsd, vsn, gW, qd, qv, ev, pick, argE, zipE, ne_eq, eq_self, forall_const, implies_true, if_true, if_false, reduceIte, reduceCtorEq, Nat.reduceEqDiff, Nat.reduceAdd, Nat.reduceLT, ↓us_iprogram_repeated, r_iprogram_repeated, hb5.facts, hb6.facts, fPg, hno]
      refine ⟨a4, most4, hb6, hg6, by omega, by omega, by omega, ?_⟩
      rw [if_neg (fun h => h41 ⟨by omega, h.2.1⟩)]
      exact ⟨_, rfl⟩
theorem lk_kn (kn : List (UInt8 × List UInt8)) (c : UInt8) : lkE (.int .u8) (.int .u8 (c.toNat : Nat)) (knE kn) = some ((kn.lookup c).map S) := by
  induction kn with
  | nil => rfl
  | cons p kn ih =>
    obtain ⟨d, t⟩ := p
    simp only [knE, List.map_cons, lkE, sameK, Instr.sameNow, if_true, List.lookup_cons]
    by_cases h : c = d
    · subst h
      simp
    · have h1 : (((c.toNat : Nat) : Int) == ((d.toNat : Nat) : Int)) = false := by
        rw [beq_eq_false_iff_ne]
        exact fun e => h (UInt8.toNat_inj.1 (by omega))
      have h2 : (c == d) = false := by rw [beq_eq_false_iff_ne]; exact h
      rw [h1, h2]
      exact ih
theorem mp_facts {w : World} {km : Nat} {kn : List (UInt8 × List UInt8)} (h : mapAt w (.map (some km)) = some (knE kn)) (c : UInt8) :
    (∀ co z, mlkV w co (.int .u8) z (.map (some km)) (.int .u8 (c.toNat : Nat)) = mlkR co z (some ((kn.lookup c).map S))) ∧ mlkD w (.int .u8) (.map (some km)) (.int .u8 (c.toNat : Nat)) = True := by
  unfold mlkV mlkD
  rw [h, Option.bind_some, lk_kn]
  exact ⟨fun _ _ => rfl, eq_true rfl⟩
theorem lookup_mem {kn : List (UInt8 × List UInt8)} {c : UInt8} {t : List UInt8} (h : kn.lookup c = some t) : (c, t) ∈ kn := by
  induction kn with
  | nil => cases h
  | cons p kn ih =>
    obtain ⟨d, u⟩ := p
    rw [List.lookup_cons] at h
    by_cases hc : c = d
    · subst hc
      simp at h
      subst h
      exact List.mem_cons_self
    · have h2 : (c == d) = false := by rw [beq_eq_false_iff_ne]; exact hc
      rw [h2] at h
      exact List.mem_cons_of_mem _ (ih h)
theorem iprogram_block_ok : ∀ f, BlockOk f := by
  intro f
  induction f using Nat.strongRecOn with
  | _ f ih =>
  intro s kn km nm dep most a0 b w hf ha0 hs hd hm hkn hkb hb hmp
  (refine callsV_of mix Tryd.func32 c_iprogram_block ?_; simp only [↓vsd, vsn, gW, qd, qv, ev, pick, argE, zipE, ne_eq, eq_self, forall_const, implies_true, if_true, if_false, reduceIte, reduceCtorEq, Nat.reduceEqDiff, Nat.reduceAdd, Nat.reduceLT, ↓us_iprogram_block, r_iprogram_block])
  refine m_loop (fun m vs w' => ∃ (a most' : Nat) (out : List UInt8) (q : Bool), m ≤ f ∧ vs = [S out, .bool q] ∧ Blk w' b (fP s a (.map (some km)) nm dep most') 44 ∧ w.grownBy w' (some b) ∧ a0 ≤ a ∧ a ≤ s.length ∧ s.length - a < m ∧ most' ≤ 600 ∧ out.length ≤ 61 ∧
    blk s kn m a out q dep most' = blk s kn f a0 [] false dep most) f ⟨a0, most, [], false, Nat.le_refl _, rfl, hb, grown_refl _ _, Nat.le_refl _, ha0, hf, hm, by decide, rfl⟩ ?_
  rintro m vs w1 ⟨a, most1, out, q, hmf, rfl, hb1, hg1, ha1, ha2, ham, hm1, hol, hR⟩
  obtain ⟨g, rfl⟩ : ∃ g, m = g + 1 := ⟨m - 1, by omega⟩
  have hmp1 : mapAt w1 (.map (some km)) = some (knE kn) := mapAt_grown hmp hg1 (by simpa using hkb)
  rw [blk] at hR
  by_cases hend : s.length ≤ a
  · rw [if_pos hend] at hR
    have hI : ¬ (a : Int) < s.length := by omega
    simp only [↓vsd, vsn, gW, qd, qv, ev, pick, argE, zipE, ne_eq, eq_self, forall_const, implies_true, if_true, if_false, reduceIte, reduceCtorEq, Nat.reduceEqDiff, Nat.reduceAdd, Nat.reduceLT, ↓us_iprogram_block, r_iprogram_block, hb1.facts, fPg, hI]
    refine ⟨a, most1, hb1, gdrw hg1, ha1, ha2, hm1, ?_⟩
    rw [← hR]
    cases q
    · exact .inl ⟨out, rfl⟩
    · exact ⟨rfl, rfl, rfl, hol⟩
  · rw [if_neg hend] at hR
    have hI : (a : Int) < s.length := by omega
    have hJ : ¬ (s.length : Int) ≤ a := by omega
    by_cases h40 : (s.getD a 0).toNat = 40
    · rw [if_pos h40] at hR
      have h40I : ((s.getD a 0).toNat : Int) = 40 := by omega
      simp only [↓vsd, vsn, gW, qd, qv, ev, pick, argE, zipE, ne_eq, eq_self, forall_const, implies_true, if_true, if_false, reduceIte, reduceCtorEq, Nat.reduceEqDiff, Nat.reduceAdd, Nat.reduceLT, ↓us_iprogram_block, r_iprogram_block, hb1.facts, fPg, hI, hJ, h40I]
      have hb1d : Blk w1.drew.drew b (fP s a (.map (some km)) nm dep most1) 44 := hb1
      have hcall := iprogram_repeated_ok g (ih g (by omega)) s kn km nm dep most1 a b w1.drew.drew (by omega) (by omega) hs (by omega) hm1 hkn hkb hb1d hmp1
      refine ⟨by omega, m_callw (.inl rfl) hcall ?_⟩
      rintro r w2 ⟨a2, most2, hb2, hg2, ha2, hal2, hm2, hRr⟩
      have hg12 : w.grownBy w2 (some b) := grown_trans hg1 (gudw (gudw hg2))
      cases hbl : blk s kn g (a + 1) [] false (dep + 1) (max most1 (dep + 1)) with
      | none =>
        rw [hbl] at hRr hR
        obtain ⟨o, rfl⟩ := hRr
        simp only [↓vsd, vsn, gW, qd, qv, ev, pick, argE, zipE, ne_eq, eq_self, forall_const, implies_true, if_true, if_false, reduceIte, reduceCtorEq, Nat.reduceEqDiff, Nat.reduceAdd, Nat.reduceLT, ↓us_iprogram_block, r_iprogram_block]
        refine ⟨a2, most2, hb2, hg12, by omega, hal2, hm2, ?_⟩
        rw [← hR]
        exact .inl ⟨_, rfl⟩
      | some p =>
        obtain ⟨part, a3, most3⟩ := p
        rw [hbl] at hRr hR
        simp only at hRr hR
        by_cases hc : a3 + 1 < s.length ∧ (s.getD a3 0).toNat = 41 ∧ 50 ≤ (s.getD (a3 + 1) 0).toNat ∧ (s.getD (a3 + 1) 0).toNat ≤ 57
        · rw [if_pos hc] at hRr hR
          have hba := blk_at (by omega : a + 1 ≤ s.length) hbl
          simp only at hba
          obtain ⟨rfl, rfl, rfl⟩ := hRr
          have hl2 : ((Lib.repeatL part ((s.getD (a3 + 1) 0).toNat - 48)).take 61).length ≤ 61 := by rw [List.length_take]; omega
          simp only [↓vsd, vsn, gW, qd, qv, ev, pick, argE, zipE, ne_eq, eq_self, forall_const, implies_true, if_true, if_false, reduceIte, reduceCtorEq, Nat.reduceEqDiff, Nat.reduceAdd, Nat.reduceLT, ↓us_iprogram_block, r_iprogram_block]
          refine ⟨by omega, m_call (icut_ok _ (by rw [List.length_append]; omega) _) ?_⟩
          rintro _ w9 hx9 rfl
          simp only [↓vsd, vsn, gW, qd, qv, ev, pick, argE, zipE, ne_eq, eq_self, forall_const, implies_true, if_true, if_false, reduceIte, reduceCtorEq, Nat.reduceEqDiff, Nat.reduceAdd, Nat.reduceLT, ↓us_iprogram_block, r_iprogram_block]
          exact ⟨g, by omega, a3 + 2, most2, _, true, by omega, ⟨rfl, rfl⟩, hb2.ext hx9, grown_trans hg12 (grown_ext _ hx9), by omega, by omega, by omega, by omega, by rw [List.length_take]; omega, hR⟩
        · rw [if_neg hc] at hRr hR
          obtain ⟨o, rfl⟩ := hRr
          simp only [↓vsd, vsn, gW, qd, qv, ev, pick, argE, zipE, ne_eq, eq_self, forall_const, implies_true, if_true, if_false, reduceIte, reduceCtorEq, Nat.reduceEqDiff, Nat.reduceAdd, Nat.reduceLT, ↓us_iprogram_block, r_iprogram_block]
          refine ⟨a2, most2, hb2, hg12, by omega, hal2, hm2, ?_⟩
          rw [← hR]
          exact .inl ⟨_, rfl⟩
    · rw [if_neg h40] at hR
      have h40I : ¬ ((s.getD a 0).toNat : Int) = 40 := by omega
      by_cases hAZ : 65 ≤ (s.getD a 0).toNat ∧ (s.getD a 0).toNat ≤ 90
      · rw [if_pos hAZ] at hR
        have h65 : 65 ≤ ((s.getD a 0).toNat : Int) := by omega
        have h90 : ((s.getD a 0).toNat : Int) ≤ 90 := by omega
        have hmf := mp_facts hmp1 (s.getD a 0)
        have hr1 : ∀ z v, mlkR true z (some (some v)) = .tuple ⟨[v, .bool true]⟩ := fun _ _ => rfl
        have hr2 : ∀ z, mlkR true z (some none) = .tuple ⟨[z, .bool false]⟩ := fun _ => rfl
        have hb1d : Blk w1.drew.drew b (fP s a (.map (some km)) nm dep most1) 44 := hb1
        cases hlk : kn.lookup (s.getD a 0) with
        | none =>
          rw [hlk] at hR
          simp only [↓vsd, vsn, gW, qd, qv, ev, pick, argE, zipE, ne_eq, eq_self, forall_const, implies_true, if_true, if_false, reduceIte, reduceCtorEq, Nat.reduceEqDiff, Nat.reduceAdd, Nat.reduceLT, ↓us_iprogram_block, r_iprogram_block, hb1.facts, fPg, hI, hJ, h40I, h65, h90, hmf, hlk, hr2]
          refine ⟨by omega, inR_i64 (by omega), m_st hb1d rfl (by decide : 1 + 1 ≤ 6) (fI_one _) ?_⟩
          rintro w2 hb2' hu2
          have hb2 : Blk w2 b (fP s (a + 1 : Nat) (.map (some km)) nm dep most1) 44 := hb2'
          simp only [↓vsd, vsn, gW, qd, qv, ev, pick, argE, zipE, ne_eq, eq_self, forall_const, implies_true, if_true, if_false, reduceIte, reduceCtorEq, Nat.reduceEqDiff, Nat.reduceAdd, Nat.reduceLT, ↓us_iprogram_block, r_iprogram_block]
          refine ⟨a + 1, most1, hb2, grown_trans hg1 (gudw (gudw hu2.grown)), by omega, by omega, hm1, ?_⟩
          rw [← hR]
          exact .inl ⟨_, rfl⟩
        | some part =>
          rw [hlk] at hR
          have hpl := hkn _ (lookup_mem hlk)
          simp only at hpl
          simp only [↓vsd, vsn, gW, qd, qv, ev, pick, argE, zipE, ne_eq, eq_self, forall_const, implies_true, if_true, if_false, reduceIte, reduceCtorEq, Nat.reduceEqDiff, Nat.reduceAdd, Nat.reduceLT, ↓us_iprogram_block, r_iprogram_block, hb1.facts, fPg, hI, hJ, h40I, h65, h90, hmf, hlk, hr1]
          refine ⟨by omega, inR_i64 (by omega), m_st hb1d rfl (by decide : 1 + 1 ≤ 6) (fI_one _) ?_⟩
          rintro w2 hb2' hu2
          have hb2 : Blk w2 b (fP s (a + 1 : Nat) (.map (some km)) nm dep most1) 44 := hb2'
          have hg12 : w.grownBy w2 (some b) := grown_trans hg1 (gudw (gudw hu2.grown))
          simp only [↓vsd, vsn, gW, qd, qv, ev, pick, argE, zipE, ne_eq, eq_self, forall_const, implies_true, if_true, if_false, reduceIte, reduceCtorEq, Nat.reduceEqDiff, Nat.reduceAdd, Nat.reduceLT, ↓us_iprogram_block, r_iprogram_block]
          refine ⟨by omega, m_call (icut_ok _ (by rw [List.length_append]; omega) _) ?_⟩
          rintro _ w9 hx9 rfl
          simp only [↓vsd, vsn, gW, qd, qv, ev, pick, argE, zipE, ne_eq, eq_self, forall_const, implies_true, if_true, if_false, reduceIte, reduceCtorEq, Nat.reduceEqDiff, Nat.reduceAdd, Nat.reduceLT, ↓us_iprogram_block, r_iprogram_block]
          exact ⟨g, by omega, a + 1, most1, _, true, by omega, ⟨rfl, rfl⟩, hb2.ext hx9, grown_trans hg12 (grown_ext _ hx9), by omega, by omega, by omega, by omega, by rw [List.length_take]; omega, hR⟩
      · rw [if_neg hAZ] at hR
        have hno : ¬ (65 ≤ ((s.getD a 0).toNat : Int) ∧ ((s.getD a 0).toNat : Int) ≤ 90) := by omega
        simp only [↓vsd, vsn, gW, qd, qv, ev, pick, argE, zipE, ne_eq, eq_self, forall_const, implies_true, if_true, if_false, reduceIte, reduceCtorEq, Nat.reduceEqDiff, Nat.reduceAdd, Nat.reduceLT, ↓us_iprogram_block, r_iprogram_block, hb1.facts, fPg, hI, hJ, h40I, hno]
        have e1 : (s.take (a + 1)).drop a = [s.getD a 0] := by
          rw [List.take_add_one, List.drop_append, List.getD_eq_getElem?_getD, List.getElem?_eq_getElem (by omega)]
          simp [Nat.min_eq_left (show a ≤ s.length by omega)]
        rw [e1]
        refine ⟨by omega, inR_i64 (by omega), by omega, m_call (iareCalls_one _ _) ?_⟩
        rintro _ w2 hx2 rfl
        have hx2 := ud (ud (ud hx2))
        have hb2 := hb1.ext hx2
        have hg2 := grown_trans hg1 (grown_ext (some b) hx2)
        by_cases hcb : IsCallB (s.getD a 0)
        · rw [if_pos (show (s.getD a 0).toNat = 112 ∨ (s.getD a 0).toNat = 98 ∨ (s.getD a 0).toNat = 115 from hcb)] at hR
          simp only [↓vsd, vsn, gW, qd, qv, ev, pick, argE, zipE, ne_eq, eq_self, forall_const, implies_true, if_true, if_false, reduceIte, reduceCtorEq, Nat.reduceEqDiff, Nat.reduceAdd, Nat.reduceLT, ↓us_iprogram_block, r_iprogram_block, hb1.facts, hb2.facts, fPg, hcb]
          rw [e1]
          have hb2d : Blk w2.drew b (fP s a (.map (some km)) nm dep most1) 44 := hb2
          refine ⟨inR_i64 (by omega), by omega, inR_i64 (by omega), m_st hb2d rfl (by decide : 1 + 1 ≤ 6) (fI_one _) ?_⟩
          rintro w3 hb3' hu3
          have hb3 : Blk w3 b (fP s (a + 1 : Nat) (.map (some km)) nm dep most1) 44 := hb3'
          have hg3 : w.grownBy w3 (some b) := grown_trans hg2 (gudw hu3.grown)
          simp only [↓vsd, vsn, gW, qd, qv, ev, pick, argE, zipE, ne_eq, eq_self, forall_const, implies_true, if_true, if_false, reduceIte, reduceCtorEq, Nat.reduceEqDiff, Nat.reduceAdd, Nat.reduceLT, ↓us_iprogram_block, r_iprogram_block]
          refine ⟨by omega, m_call (icut_ok _ (by rw [List.length_append]; simp only [List.length_singleton]; omega) _) ?_⟩
          rintro _ w9 hx9 rfl
          simp only [↓vsd, vsn, gW, qd, qv, ev, pick, argE, zipE, ne_eq, eq_self, forall_const, implies_true, if_true, if_false, reduceIte, reduceCtorEq, Nat.reduceEqDiff, Nat.reduceAdd, Nat.reduceLT, ↓us_iprogram_block, r_iprogram_block]
          exact ⟨g, by omega, a + 1, most1, _, true, by omega, ⟨rfl, rfl⟩, hb3.ext hx9, grown_trans hg3 (grown_ext _ hx9), by omega, by omega, by omega, by omega, by rw [List.length_take]; omega, hR⟩
        · rw [if_neg (show ¬ ((s.getD a 0).toNat = 112 ∨ (s.getD a 0).toNat = 98 ∨ (s.getD a 0).toNat = 115) from hcb)] at hR
          simp only [↓vsd, vsn, gW, qd, qv, ev, pick, argE, zipE, ne_eq, eq_self, forall_const, implies_true, if_true, if_false, reduceIte, reduceCtorEq, Nat.reduceEqDiff, Nat.reduceAdd, Nat.reduceLT, ↓us_iprogram_block, r_iprogram_block, hb1.facts, hb2.facts, fPg, hcb]
          refine ⟨a, most1, hb2, hg2, ha1, ha2, hm1, ?_⟩
          rw [← hR]
          by_cases hst : (s.getD a 0).toNat = 41 ∨ (s.getD a 0).toNat = 59
          · rw [if_pos hst]
            cases q
            · exact .inl ⟨out, rfl⟩
            · exact ⟨rfl, rfl, rfl, hol⟩
          · rw [if_neg hst]
            cases q
            · exact .inl ⟨out, rfl⟩
            · exact .inr ⟨out, rfl, by omega, fun e => hst (.inl e), fun e => hst (.inr e)⟩
end Go.Proofs.YtnbnofmnbopknaaDoor
