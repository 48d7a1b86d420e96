/-
  Rotations of touches, the least of them, and how many calls, of both sides.
  Conditions: none.
-/
import Derived.Test.YtpnopboffalfnaaA38
import Derived.Test.YtpnopboffalfnaaPu
set_option linter.unusedSimpArgs false
set_option linter.unusedVariables false
set_option linter.defProp false
namespace Go.Proofs.Ytpnopboffalfnaa
open Go Go.RowKit
section
variable (P : Program) (k : KT) (e : Env) (w : World)
abbrev b101_1 : X := (.cond (.t 18) (.seq (.reg [4, 5] (.c (.q 4 [] (.mv (.s []))) (.c (.q 5 [] (.mv (.c (.bool false)))) .nil))) .ret) .skip)
def t101_1 := b101_1
theorem u101_1 : vcK P t101_1 k e w = vcK P b101_1 k e w := rfl
abbrev b101_2 : X := (.seq (.drw [4, 5] (.c (.q 19 [] (.mv (.t 0))) (.c (.q 20 [] (.mv (.t 1))) (.c (.q 21 [] (.sub (.t 19) (some (.t 20)) none)) (.c (.q 22 [] (.mv (.t 0))) (.c (.q 23 [] (.mv (.t 1))) (.c (.q 24 [] (.sub (.t 22) none (some (.t 23)))) (.c (.q 25 [] (.bin .add (.t 21) (.t 24))) (.c (.q 4 [] (.mv (.t 25))) (.c (.q 5 [] (.mv (.c (.bool true)))) .nil)))))))))) .ret)
def t101_2 := b101_2
theorem u101_2 : vcK P t101_2 k e w = vcK P b101_2 k e w := rfl
abbrev b101_3 : X := (.seq (.seq (.reg [0, 1, 18] (.c (.q 6 [] (.mv (.t 0))) (.c (.e (some 7) [] (.call false 82 [(.t 6)])) (.c (.q 8 [] (.not (.t 7))) (.c (.q 9 [] (.mv (.t 8))) (.c (.q 10 [(9, false)] (.mv (.t 1))) (.c (.q 11 [(9, false)] (.bin .lss (.t 10) (.c (.int .i64 0)))) (.c (.q 12 [] (.pick (.t 9) (.c (.bool true)) (.t 11))) (.c (.q 13 [] (.mv (.t 12))) (.c (.q 14 [(13, false)] (.mv (.t 1))) (.c (.q 15 [(13, false)] (.mv (.t 0))) (.c (.q 16 [(13, false)] (.len (.t 15))) (.c (.q 17 [(13, false)] (.bin .geq (.t 14) (.t 16))) (.c (.q 18 [] (.pick (.t 13) (.c (.bool true)) (.t 17))) .nil)))))))))))))) t101_1) t101_2)
def t101_3 := b101_3
theorem u101_3 : vcK P t101_3 k e w = vcK P b101_3 k e w := rfl
abbrev b101_0 : X := (.seq (.reg [0, 1] (.c (.q 4 [] (.mv (.s []))) (.c (.q 5 [] (.mv (.c (.bool false)))) .nil))) t101_3)
def x_iTurnTouch := b101_0
theorem u101_0 : vcK P x_iTurnTouch k e w = vcK P b101_0 k e w := rfl
def r_iTurnTouch : List XO := [(.mv (.t 4)), (.mv (.t 5))]
theorem c_iTurnTouch : convF Try.prog [169, 170, 207, 208, 210, 227, 232, 233, 255, 259, 268, 269, 270, 280, 281, 296, 299, 306, 307, 309] Try.f101 [([0, 1], []), ([0, 1, 18], []), ([4, 5], []), ([4, 5], [])] = some (x_iTurnTouch, r_iTurnTouch) := by kernel_rfl
def us_iTurnTouch := aI @u101_0 (aI @u101_1 (aI @u101_2 @u101_3))
abbrev b102_1 : X := (.cond (.t 16) (.seq (.reg [4, 5] (.c (.q 4 [] (.mv (.s []))) (.c (.q 5 [] (.mv (.c (.bool false)))) .nil))) .ret) .skip)
def t102_1 := b102_1
theorem u102_1 : vcK P t102_1 k e w = vcK P b102_1 k e w := rfl
abbrev b102_2 : X := (.seq (.reg [4, 5] (.c (.q 17 [] (.mv (.t 0))) (.c (.q 18 [] (.mv (.t 1))) (.c (.e (some 19) [] (.call false 228 [(.t 17), (.t 18)])) (.c (.q 4 [] (.mv (.t 19))) (.c (.q 5 [] (.mv (.c (.bool true)))) .nil)))))) .ret)
def t102_2 := b102_2
theorem u102_2 : vcK P t102_2 k e w = vcK P b102_2 k e w := rfl
abbrev b102_3 : X := (.seq (.seq (.reg [0, 1, 16] (.c (.q 6 [] (.mv (.t 0))) (.c (.e (some 7) [] (.call false 218 [(.t 6)])) (.c (.q 8 [] (.not (.t 7))) (.c (.q 9 [] (.mv (.t 8))) (.c (.q 10 [(9, false)] (.mv (.t 1))) (.c (.q 11 [(9, false)] (.mv (.t 0))) (.c (.q 12 [(9, false)] (.len (.t 11))) (.c (.q 13 [(9, false)] (.bin .sub (.t 12) (.c (.int .i64 1)))) (.c (.e (some 14) [(9, false)] (.call false 173 [(.t 10), (.c (.int .i64 0)), (.t 13)])) (.c (.q 15 [(9, false)] (.not (.t 14))) (.c (.q 16 [] (.pick (.t 9) (.c (.bool true)) (.t 15))) .nil)))))))))))) t102_1) t102_2)
def t102_3 := b102_3
theorem u102_3 : vcK P t102_3 k e w = vcK P b102_3 k e w := rfl
abbrev b102_0 : X := (.seq (.reg [0, 1] (.c (.q 4 [] (.mv (.s []))) (.c (.q 5 [] (.mv (.c (.bool false)))) .nil))) t102_3)
def x_sTurnTouch := b102_0
theorem u102_0 : vcK P x_sTurnTouch k e w = vcK P b102_0 k e w := rfl
def r_sTurnTouch : List XO := [(.mv (.t 4)), (.mv (.t 5))]
theorem c_sTurnTouch : convF Try.prog [169, 170, 207, 208, 210, 227, 232, 233, 255, 259, 268, 269, 270, 280, 281, 296, 299, 306, 307, 309] Try.f102 [([0, 1], []), ([0, 1, 16], []), ([4, 5], []), ([4, 5], [])] = some (x_sTurnTouch, r_sTurnTouch) := by kernel_rfl
def us_sTurnTouch := aI @u102_0 (aI @u102_1 (aI @u102_2 @u102_3))
abbrev b228_1 : X := (.seq (.drw [4] (.c (.q 5 [] (.mv (.t 0))) (.c (.q 6 [] (.mv (.t 1))) (.c (.q 7 [] (.sub (.t 5) (some (.t 6)) none)) (.c (.q 8 [] (.mv (.t 0))) (.c (.q 9 [] (.mv (.t 1))) (.c (.q 10 [] (.sub (.t 8) none (some (.t 9)))) (.c (.q 11 [] (.bin .add (.t 7) (.t 10))) (.c (.q 4 [] (.mv (.t 11))) .nil))))))))) .ret)
def t228_1 := b228_1
theorem u228_1 : vcK P t228_1 k e w = vcK P b228_1 k e w := rfl
abbrev b228_0 : X := (.seq (.reg [0, 1] (.c (.q 4 [] (.mv (.s []))) .nil)) t228_1)
def x_sl9Turn := b228_0
theorem u228_0 : vcK P x_sl9Turn k e w = vcK P b228_0 k e w := rfl
def r_sl9Turn : List XO := [(.mv (.t 4))]
theorem c_sl9Turn : convF Try.prog [169, 170, 207, 208, 210, 227, 232, 233, 255, 259, 268, 269, 270, 280, 281, 296, 299, 306, 307, 309] Try.f228 [([0, 1], []), ([4], [])] = some (x_sl9Turn, r_sl9Turn) := by kernel_rfl
def us_sl9Turn := aI @u228_0 @u228_1
abbrev b229_1 : X := (.drw [0, 1, 5, 9, 10] (.c (.q 13 [] (.mv (.t 5))) (.c (.q 14 [] (.mv (.t 0))) (.c (.q 15 [] (.mv (.t 6))) (.c (.q 16 [] (.sub (.t 14) (some (.t 15)) none)) (.c (.q 17 [] (.mv (.t 0))) (.c (.q 18 [] (.mv (.t 6))) (.c (.q 19 [] (.sub (.t 17) none (some (.t 18)))) (.c (.q 20 [] (.bin .add (.t 16) (.t 19))) (.c (.q 21 [] (.mn (.t 13) (.t 20))) (.c (.q 5 [] (.mv (.t 21))) .nil)))))))))))
def t229_1 := b229_1
theorem u229_1 : vcK P t229_1 k e w = vcK P b229_1 k e w := rfl
abbrev b229_2 : X := (.reg [0, 1, 5, 9, 10] (.c (.q 22 [] (.bin .add (.t 10) (.c (.int .i64 1)))) (.c (.q 10 [] (.mv (.t 22))) .nil)))
def t229_2 := b229_2
theorem u229_2 : vcK P t229_2 k e w = vcK P b229_2 k e w := rfl
abbrev b229_3 : X := (.seq (.blk 1 (.seq (.reg [0, 1, 5, 6, 9, 10] (.c (.q 12 [] (.mv (.t 10))) (.c (.q 6 [] (.mv (.t 12))) .nil))) t229_1)) t229_2)
def t229_3 := b229_3
theorem u229_3 : vcK P t229_3 k e w = vcK P b229_3 k e w := rfl
abbrev b229_4 : X := (.seq (.cond (.t 11) .skip (.exit 0)) t229_3)
def t229_4 := b229_4
theorem u229_4 : vcK P t229_4 k e w = vcK P b229_4 k e w := rfl
abbrev b229_5 : X := (.seq (.reg [0, 1, 5, 9, 10, 11] (.c (.q 11 [] (.bin .lss (.t 10) (.t 9))) .nil)) t229_4)
def t229_5 := b229_5
theorem u229_5 : vcK P t229_5 k e w = vcK P b229_5 k e w := rfl
abbrev b229_6 : X := (.blk 0 (.loop [5, 10] [0, 1, 9] t229_5))
def t229_6 := b229_6
theorem u229_6 : vcK P t229_6 k e w = vcK P b229_6 k e w := rfl
abbrev b229_7 : X := (.cond (.t 23) (.reg [5] (.c (.q 24 [] (.mv (.t 5))) (.c (.q 25 [] (.mv (.t 0))) (.c (.e (some 26) [] (.call false 168 [(.t 25)])) (.c (.e (some 27) [] (.call false 229 [(.t 26), (.c (.bool false))])) (.c (.q 28 [] (.mn (.t 24) (.t 27))) (.c (.q 5 [] (.mv (.t 28))) .nil))))))) .skip)
def t229_7 := b229_7
theorem u229_7 : vcK P t229_7 k e w = vcK P b229_7 k e w := rfl
abbrev b229_8 : X := (.seq (.reg [4] (.c (.q 29 [] (.mv (.t 5))) (.c (.q 4 [] (.mv (.t 29))) .nil))) .ret)
def t229_8 := b229_8
theorem u229_8 : vcK P t229_8 k e w = vcK P b229_8 k e w := rfl
abbrev b229_9 : X := (.seq (.seq (.reg [0, 5, 23] (.c (.q 23 [] (.mv (.t 1))) .nil)) t229_7) t229_8)
def t229_9 := b229_9
theorem u229_9 : vcK P t229_9 k e w = vcK P b229_9 k e w := rfl
abbrev b229_10 : X := (.seq (.seq (.reg [0, 1, 5, 9, 10] (.c (.q 8 [] (.mv (.t 0))) (.c (.q 9 [] (.len (.t 8))) (.c (.q 10 [] (.mv (.c (.int .i64 0)))) .nil)))) t229_6) t229_9)
def t229_10 := b229_10
theorem u229_10 : vcK P t229_10 k e w = vcK P b229_10 k e w := rfl
abbrev b229_11 : X := (.seq (.reg [0, 1, 5] (.c (.q 7 [] (.mv (.t 0))) (.c (.q 5 [] (.mv (.t 7))) .nil))) t229_10)
def t229_11 := b229_11
theorem u229_11 : vcK P t229_11 k e w = vcK P b229_11 k e w := rfl
abbrev b229_0 : X := (.seq (.reg [0, 1] (.c (.q 4 [] (.mv (.s []))) .nil)) t229_11)
def x_ileastTurn := b229_0
theorem u229_0 : vcK P x_ileastTurn k e w = vcK P b229_0 k e w := rfl
def r_ileastTurn : List XO := [(.mv (.t 4))]
theorem c_ileastTurn : convF Try.prog [169, 170, 207, 208, 210, 227, 232, 233, 255, 259, 268, 269, 270, 280, 281, 296, 299, 306, 307, 309] Try.f229 [([0, 1], []), ([0, 1, 5], []), ([0, 1, 5, 9, 10], []), ([5, 10], [0, 1, 9]), ([0, 1, 5, 9, 10, 11], []), ([0, 1, 5, 6, 9, 10], []), ([0, 1, 5, 9, 10], []), ([0, 1, 5, 9, 10], []), ([0, 5, 23], []), ([5], []), ([4], [])] = some (x_ileastTurn, r_ileastTurn) := by kernel_rfl
def us_ileastTurn := aI @u229_0 (aI @u229_1 (aI @u229_2 (aI @u229_3 (aI @u229_4 (aI @u229_5 (aI @u229_6 (aI @u229_7 (aI @u229_8 (aI @u229_9 (aI @u229_10 @u229_11))))))))))
abbrev b104_1 : X := (.cond (.t 8) (.seq (.reg [4, 5] (.c (.q 4 [] (.mv (.s []))) (.c (.q 5 [] (.mv (.c (.bool false)))) .nil))) .ret) .skip)
def t104_1 := b104_1
theorem u104_1 : vcK P t104_1 k e w = vcK P b104_1 k e w := rfl
abbrev b104_2 : X := (.seq (.reg [4, 5] (.c (.q 9 [] (.mv (.t 0))) (.c (.q 10 [] (.mv (.t 1))) (.c (.e (some 11) [] (.call false 229 [(.t 9), (.t 10)])) (.c (.q 4 [] (.mv (.t 11))) (.c (.q 5 [] (.mv (.c (.bool true)))) .nil)))))) .ret)
def t104_2 := b104_2
theorem u104_2 : vcK P t104_2 k e w = vcK P b104_2 k e w := rfl
abbrev b104_3 : X := (.seq (.seq (.reg [0, 1, 8] (.c (.q 6 [] (.mv (.t 0))) (.c (.e (some 7) [] (.call false 82 [(.t 6)])) (.c (.q 8 [] (.not (.t 7))) .nil)))) t104_1) t104_2)
def t104_3 := b104_3
theorem u104_3 : vcK P t104_3 k e w = vcK P b104_3 k e w := rfl
abbrev b104_0 : X := (.seq (.reg [0, 1] (.c (.q 4 [] (.mv (.s []))) (.c (.q 5 [] (.mv (.c (.bool false)))) .nil))) t104_3)
def x_iLeastTurn := b104_0
theorem u104_0 : vcK P x_iLeastTurn k e w = vcK P b104_0 k e w := rfl
def r_iLeastTurn : List XO := [(.mv (.t 4)), (.mv (.t 5))]
theorem c_iLeastTurn : convF Try.prog [169, 170, 207, 208, 210, 227, 232, 233, 255, 259, 268, 269, 270, 280, 281, 296, 299, 306, 307, 309] Try.f104 [([0, 1], []), ([0, 1, 8], []), ([4, 5], []), ([4, 5], [])] = some (x_iLeastTurn, r_iLeastTurn) := by kernel_rfl
def us_iLeastTurn := aI @u104_0 (aI @u104_1 (aI @u104_2 @u104_3))
abbrev b230_1 : X := (.cond (.t 17) (.reg [0, 3, 8] (.c (.q 18 [] (.mv (.t 5))) (.c (.q 3 [] (.mv (.t 18))) .nil))) .skip)
def t230_1 := b230_1
theorem u230_1 : vcK P t230_1 k e w = vcK P b230_1 k e w := rfl
abbrev b230_2 : X := (.seq (.reg [0, 3, 5, 8, 17] (.c (.q 15 [] (.mv (.t 5))) (.c (.q 16 [] (.mv (.t 3))) (.c (.q 17 [] (.bin .lss (.t 15) (.t 16))) .nil)))) t230_1)
def t230_2 := b230_2
theorem u230_2 : vcK P t230_2 k e w = vcK P b230_2 k e w := rfl
abbrev b230_3 : X := (.seq (.reg [0, 3, 5, 8] (.c (.q 12 [] (.mv (.t 0))) (.c (.q 13 [] (.mv (.t 4))) (.c (.e (some 14) [] (.call false 228 [(.t 12), (.t 13)])) (.c (.q 5 [] (.mv (.t 14))) .nil))))) t230_2)
def t230_3 := b230_3
theorem u230_3 : vcK P t230_3 k e w = vcK P b230_3 k e w := rfl
abbrev b230_4 : X := (.blk 1 (.seq (.reg [0, 3, 4, 8] (.c (.q 11 [] (.ext 1 (.t 9))) (.c (.q 4 [] (.mv (.t 11))) .nil))) t230_3))
def t230_4 := b230_4
theorem u230_4 : vcK P t230_4 k e w = vcK P b230_4 k e w := rfl
abbrev b230_5 : X := (.seq (.cond (.t 10) .skip (.exit 0)) t230_4)
def t230_5 := b230_5
theorem u230_5 : vcK P t230_5 k e w = vcK P b230_5 k e w := rfl
abbrev b230_6 : X := (.seq (.reg [0, 3, 8, 9, 10] (.c (.e (some 9) [] (.nxt (.t 8))) (.c (.q 10 [] (.ext 0 (.t 9))) .nil))) t230_5)
def t230_6 := b230_6
theorem u230_6 : vcK P t230_6 k e w = vcK P b230_6 k e w := rfl
abbrev b230_7 : X := (.blk 0 (.loop [3] [0, 8] t230_6))
def t230_7 := b230_7
theorem u230_7 : vcK P t230_7 k e w = vcK P b230_7 k e w := rfl
abbrev b230_8 : X := (.seq (.reg [2] (.c (.q 19 [] (.mv (.t 3))) (.c (.q 2 [] (.mv (.t 19))) .nil))) .ret)
def t230_8 := b230_8
theorem u230_8 : vcK P t230_8 k e w = vcK P b230_8 k e w := rfl
abbrev b230_9 : X := (.seq (.seq (.reg [0, 3, 8] (.c (.q 7 [] (.mv (.t 0))) (.c (.e (some 8) [] (.rng (.t 7))) .nil))) t230_7) t230_8)
def t230_9 := b230_9
theorem u230_9 : vcK P t230_9 k e w = vcK P b230_9 k e w := rfl
abbrev b230_10 : X := (.seq (.reg [0, 3] (.c (.q 6 [] (.mv (.t 0))) (.c (.q 3 [] (.mv (.t 6))) .nil))) t230_9)
def t230_10 := b230_10
theorem u230_10 : vcK P t230_10 k e w = vcK P b230_10 k e w := rfl
abbrev b230_0 : X := (.seq (.reg [0] (.c (.q 2 [] (.mv (.s []))) .nil)) t230_10)
def x_sl9Least := b230_0
theorem u230_0 : vcK P x_sl9Least k e w = vcK P b230_0 k e w := rfl
def r_sl9Least : List XO := [(.mv (.t 2))]
theorem c_sl9Least : convF Try.prog [169, 170, 207, 208, 210, 227, 232, 233, 255, 259, 268, 269, 270, 280, 281, 296, 299, 306, 307, 309] Try.f230 [([0], []), ([0, 3], []), ([0, 3, 8], []), ([3], [0, 8]), ([0, 3, 8, 9, 10], []), ([0, 3, 4, 8], []), ([0, 3, 5, 8], []), ([0, 3, 5, 8, 17], []), ([0, 3, 8], []), ([2], [])] = some (x_sl9Least, r_sl9Least) := by kernel_rfl
def us_sl9Least := aI @u230_0 (aI @u230_1 (aI @u230_2 (aI @u230_3 (aI @u230_4 (aI @u230_5 (aI @u230_6 (aI @u230_7 (aI @u230_8 (aI @u230_9 @u230_10)))))))))
abbrev b105_1 : X := (.cond (.t 10) (.seq (.reg [4, 5] (.c (.q 4 [] (.mv (.s []))) (.c (.q 5 [] (.mv (.c (.bool false)))) .nil))) .ret) .skip)
def t105_1 := b105_1
theorem u105_1 : vcK P t105_1 k e w = vcK P b105_1 k e w := rfl
abbrev b105_2 : X := (.cond (.t 21) (.reg [6] (.c (.q 22 [] (.mv (.t 7))) (.c (.q 6 [] (.mv (.t 22))) .nil))) .skip)
def t105_2 := b105_2
theorem u105_2 : vcK P t105_2 k e w = vcK P b105_2 k e w := rfl
abbrev b105_3 : X := (.seq (.reg [6, 7, 21] (.c (.q 16 [] (.mv (.t 1))) (.c (.q 17 [] (.mv (.t 16))) (.c (.q 18 [(17, true)] (.mv (.t 7))) (.c (.q 19 [(17, true)] (.mv (.t 6))) (.c (.q 20 [(17, true)] (.bin .lss (.t 18) (.t 19))) (.c (.q 21 [] (.pick (.t 17) (.t 20) (.c (.bool false)))) .nil))))))) t105_2)
def t105_3 := b105_3
theorem u105_3 : vcK P t105_3 k e w = vcK P b105_3 k e w := rfl
abbrev b105_4 : X := (.seq (.reg [4, 5] (.c (.q 23 [] (.mv (.t 6))) (.c (.q 4 [] (.mv (.t 23))) (.c (.q 5 [] (.mv (.c (.bool true)))) .nil)))) .ret)
def t105_4 := b105_4
theorem u105_4 : vcK P t105_4 k e w = vcK P b105_4 k e w := rfl
abbrev b105_5 : X := (.seq (.seq (.reg [1, 6, 7] (.c (.q 13 [] (.mv (.t 0))) (.c (.e (some 14) [] (.call false 231 [(.t 13)])) (.c (.e (some 15) [] (.call false 230 [(.t 14)])) (.c (.q 7 [] (.mv (.t 15))) .nil))))) t105_3) t105_4)
def t105_5 := b105_5
theorem u105_5 : vcK P t105_5 k e w = vcK P b105_5 k e w := rfl
abbrev b105_6 : X := (.seq (.reg [0, 1, 6] (.c (.q 11 [] (.mv (.t 0))) (.c (.e (some 12) [] (.call false 230 [(.t 11)])) (.c (.q 6 [] (.mv (.t 12))) .nil)))) t105_5)
def t105_6 := b105_6
theorem u105_6 : vcK P t105_6 k e w = vcK P b105_6 k e w := rfl
abbrev b105_7 : X := (.seq (.seq (.reg [0, 1, 10] (.c (.q 8 [] (.mv (.t 0))) (.c (.e (some 9) [] (.call false 218 [(.t 8)])) (.c (.q 10 [] (.not (.t 9))) .nil)))) t105_1) t105_6)
def t105_7 := b105_7
theorem u105_7 : vcK P t105_7 k e w = vcK P b105_7 k e w := rfl
abbrev b105_0 : X := (.seq (.reg [0, 1] (.c (.q 4 [] (.mv (.s []))) (.c (.q 5 [] (.mv (.c (.bool false)))) .nil))) t105_7)
def x_sLeastTurn := b105_0
theorem u105_0 : vcK P x_sLeastTurn k e w = vcK P b105_0 k e w := rfl
def r_sLeastTurn : List XO := [(.mv (.t 4)), (.mv (.t 5))]
theorem c_sLeastTurn : convF Try.prog [169, 170, 207, 208, 210, 227, 232, 233, 255, 259, 268, 269, 270, 280, 281, 296, 299, 306, 307, 309] Try.f105 [([0, 1], []), ([0, 1, 10], []), ([4, 5], []), ([0, 1, 6], []), ([1, 6, 7], []), ([6, 7, 21], []), ([6], []), ([4, 5], [])] = some (x_sLeastTurn, r_sLeastTurn) := by kernel_rfl
def us_sLeastTurn := aI @u105_0 (aI @u105_1 (aI @u105_2 (aI @u105_3 (aI @u105_4 (aI @u105_5 (aI @u105_6 @u105_7))))))
abbrev b107_1 : X := (.cond (.t 8) (.seq (.reg [2, 3] (.c (.q 2 [] (.mv (.c (.slice none 0 0)))) (.c (.q 3 [] (.mv (.c (.bool false)))) .nil))) .ret) .skip)
def t107_1 := b107_1
theorem u107_1 : vcK P t107_1 k e w = vcK P b107_1 k e w := rfl
abbrev b107_2 : X := (.cond (.t 30) (.reg [0, 4, 11, 12] (.c (.q 32 [] (.mv (.t 4))) (.c (.q 33 [] (.ia 1 (.t 32) (.c (.int .i64 1)))) (.c (.q 34 [] (.ld (.t 33))) (.c (.q 35 [] (.bin .add (.t 34) (.c (.int .i64 1)))) (.c (.q 36 [] (.ia 1 (.t 32) (.c (.int .i64 1)))) (.c (.e none [] (.st 1 (.t 36) (.t 35))) .nil))))))) (.reg [0, 4, 11, 12] (.c (.q 18 [] (.mv (.t 4))) (.c (.q 19 [] (.ia 1 (.t 18) (.c (.int .i64 2)))) (.c (.q 20 [] (.ld (.t 19))) (.c (.q 21 [] (.bin .add (.t 20) (.c (.int .i64 1)))) (.c (.q 22 [] (.ia 1 (.t 18) (.c (.int .i64 2)))) (.c (.e none [] (.st 1 (.t 22) (.t 21))) .nil))))))))
def t107_2 := b107_2
theorem u107_2 : vcK P t107_2 k e w = vcK P b107_2 k e w := rfl
abbrev b107_3 : X := (.cond (.t 23) (.reg [0, 4, 11, 12] (.c (.q 25 [] (.mv (.t 4))) (.c (.q 26 [] (.ia 1 (.t 25) (.c (.int .i64 0)))) (.c (.q 27 [] (.ld (.t 26))) (.c (.q 28 [] (.bin .add (.t 27) (.c (.int .i64 1)))) (.c (.q 29 [] (.ia 1 (.t 25) (.c (.int .i64 0)))) (.c (.e none [] (.st 1 (.t 29) (.t 28))) .nil))))))) (.seq (.reg [0, 4, 11, 12, 30] (.c (.q 31 [] (.bin .eql (.t 17) (.c (.int .u8 98)))) (.c (.q 30 [] (.mv (.t 31))) .nil))) t107_2))
def t107_3 := b107_3
theorem u107_3 : vcK P t107_3 k e w = vcK P b107_3 k e w := rfl
abbrev b107_4 : X := (.blk 2 (.seq (.reg [0, 4, 11, 12, 17, 23] (.c (.q 24 [] (.bin .eql (.t 17) (.c (.int .u8 112)))) (.c (.q 23 [] (.mv (.t 24))) .nil))) t107_3))
def t107_4 := b107_4
theorem u107_4 : vcK P t107_4 k e w = vcK P b107_4 k e w := rfl
abbrev b107_5 : X := (.seq (.reg [0, 4, 11, 12, 17] (.c (.q 15 [] (.mv (.t 0))) (.c (.q 16 [] (.mv (.t 5))) (.c (.q 17 [] (.idx (.t 15) (.t 16))) .nil)))) t107_4)
def t107_5 := b107_5
theorem u107_5 : vcK P t107_5 k e w = vcK P b107_5 k e w := rfl
abbrev b107_6 : X := (.reg [0, 4, 11, 12] (.c (.q 37 [] (.bin .add (.t 12) (.c (.int .i64 1)))) (.c (.q 12 [] (.mv (.t 37))) .nil)))
def t107_6 := b107_6
theorem u107_6 : vcK P t107_6 k e w = vcK P b107_6 k e w := rfl
abbrev b107_7 : X := (.seq (.blk 1 (.seq (.reg [0, 4, 5, 11, 12] (.c (.q 14 [] (.mv (.t 12))) (.c (.q 5 [] (.mv (.t 14))) .nil))) t107_5)) t107_6)
def t107_7 := b107_7
theorem u107_7 : vcK P t107_7 k e w = vcK P b107_7 k e w := rfl
abbrev b107_8 : X := (.seq (.cond (.t 13) .skip (.exit 0)) t107_7)
def t107_8 := b107_8
theorem u107_8 : vcK P t107_8 k e w = vcK P b107_8 k e w := rfl
abbrev b107_9 : X := (.seq (.reg [0, 4, 11, 12, 13] (.c (.q 13 [] (.bin .lss (.t 12) (.t 11))) .nil)) t107_8)
def t107_9 := b107_9
theorem u107_9 : vcK P t107_9 k e w = vcK P b107_9 k e w := rfl
abbrev b107_10 : X := (.blk 0 (.loop [12] [0, 4, 11] t107_9))
def t107_10 := b107_10
theorem u107_10 : vcK P t107_10 k e w = vcK P b107_10 k e w := rfl
abbrev b107_11 : X := (.seq (.reg [2, 3] (.c (.q 38 [] (.mv (.t 4))) (.c (.q 2 [] (.mv (.t 38))) (.c (.q 3 [] (.mv (.c (.bool true)))) .nil)))) .ret)
def t107_11 := b107_11
theorem u107_11 : vcK P t107_11 k e w = vcK P b107_11 k e w := rfl
abbrev b107_12 : X := (.seq (.seq (.reg [0, 4, 11, 12] (.c (.q 10 [] (.mv (.t 0))) (.c (.q 11 [] (.len (.t 10))) (.c (.q 12 [] (.mv (.c (.int .i64 0)))) .nil)))) t107_10) t107_11)
def t107_12 := b107_12
theorem u107_12 : vcK P t107_12 k e w = vcK P b107_12 k e w := rfl
abbrev b107_13 : X := (.seq (.reg [0, 4] (.c (.e (some 9) [] (.bsl 3 1 [(.c (.int .i64 0)), (.c (.int .i64 0)), (.c (.int .i64 0))])) (.c (.q 4 [] (.mv (.t 9))) .nil))) t107_12)
def t107_13 := b107_13
theorem u107_13 : vcK P t107_13 k e w = vcK P b107_13 k e w := rfl
abbrev b107_14 : X := (.seq (.seq (.reg [0, 8] (.c (.q 6 [] (.mv (.t 0))) (.c (.e (some 7) [] (.call false 82 [(.t 6)])) (.c (.q 8 [] (.not (.t 7))) .nil)))) t107_1) t107_13)
def t107_14 := b107_14
theorem u107_14 : vcK P t107_14 k e w = vcK P b107_14 k e w := rfl
abbrev b107_0 : X := (.seq (.reg [0] (.c (.q 2 [] (.mv (.c (.slice none 0 0)))) (.c (.q 3 [] (.mv (.c (.bool false)))) .nil))) t107_14)
def x_iCallsIn := b107_0
theorem u107_0 : vcK P x_iCallsIn k e w = vcK P b107_0 k e w := rfl
def r_iCallsIn : List XO := [(.mv (.t 2)), (.mv (.t 3))]
theorem c_iCallsIn : convF Try.prog [169, 170, 207, 208, 210, 227, 232, 233, 255, 259, 268, 269, 270, 280, 281, 296, 299, 306, 307, 309] Try.f107 [([0], []), ([0, 8], []), ([2, 3], []), ([0, 4], []), ([0, 4, 11, 12], []), ([12], [0, 4, 11]), ([0, 4, 11, 12, 13], []), ([0, 4, 5, 11, 12], []), ([0, 4, 11, 12, 17], []), ([0, 4, 11, 12, 17, 23], []), ([0, 4, 11, 12], []), ([0, 4, 11, 12, 30], []), ([0, 4, 11, 12], []), ([0, 4, 11, 12], []), ([0, 4, 11, 12], []), ([2, 3], [])] = some (x_iCallsIn, r_iCallsIn) := by kernel_rfl
def us_iCallsIn := aI @u107_0 (aI @u107_1 (aI @u107_2 (aI @u107_3 (aI @u107_4 (aI @u107_5 (aI @u107_6 (aI @u107_7 (aI @u107_8 (aI @u107_9 (aI @u107_10 (aI @u107_11 (aI @u107_12 (aI @u107_13 @u107_14)))))))))))))
abbrev b108_1 : X := (.cond (.t 8) (.seq (.reg [2, 3] (.c (.q 2 [] (.mv (.c (.slice none 0 0)))) (.c (.q 3 [] (.mv (.c (.bool false)))) .nil))) .ret) .skip)
def t108_1 := b108_1
theorem u108_1 : vcK P t108_1 k e w = vcK P b108_1 k e w := rfl
abbrev b108_2 : X := (.cond (.t 13) .skip (.exit 0))
def t108_2 := b108_2
theorem u108_2 : vcK P t108_2 k e w = vcK P b108_2 k e w := rfl
abbrev b108_3 : X := (.cond (.t 31) (.reg [0, 4, 5] (.c (.q 33 [] (.mv (.t 4))) (.c (.q 34 [] (.ia 1 (.t 33) (.c (.int .i64 1)))) (.c (.q 35 [] (.ld (.t 34))) (.c (.q 36 [] (.bin .add (.t 35) (.c (.int .i64 1)))) (.c (.q 37 [] (.ia 1 (.t 33) (.c (.int .i64 1)))) (.c (.e none [] (.st 1 (.t 37) (.t 36))) .nil))))))) (.reg [0, 4, 5] (.c (.q 19 [] (.mv (.t 4))) (.c (.q 20 [] (.ia 1 (.t 19) (.c (.int .i64 2)))) (.c (.q 21 [] (.ld (.t 20))) (.c (.q 22 [] (.bin .add (.t 21) (.c (.int .i64 1)))) (.c (.q 23 [] (.ia 1 (.t 19) (.c (.int .i64 2)))) (.c (.e none [] (.st 1 (.t 23) (.t 22))) .nil))))))))
def t108_3 := b108_3
theorem u108_3 : vcK P t108_3 k e w = vcK P b108_3 k e w := rfl
abbrev b108_4 : X := (.cond (.t 24) (.reg [0, 4, 5] (.c (.q 26 [] (.mv (.t 4))) (.c (.q 27 [] (.ia 1 (.t 26) (.c (.int .i64 0)))) (.c (.q 28 [] (.ld (.t 27))) (.c (.q 29 [] (.bin .add (.t 28) (.c (.int .i64 1)))) (.c (.q 30 [] (.ia 1 (.t 26) (.c (.int .i64 0)))) (.c (.e none [] (.st 1 (.t 30) (.t 29))) .nil))))))) (.seq (.reg [0, 4, 5, 31] (.c (.q 32 [] (.bin .eql (.t 18) (.c (.int .u8 98)))) (.c (.q 31 [] (.mv (.t 32))) .nil))) t108_3))
def t108_4 := b108_4
theorem u108_4 : vcK P t108_4 k e w = vcK P b108_4 k e w := rfl
abbrev b108_5 : X := (.blk 2 (.seq (.reg [0, 4, 5, 18, 24] (.c (.q 25 [] (.bin .eql (.t 18) (.c (.int .u8 112)))) (.c (.q 24 [] (.mv (.t 25))) .nil))) t108_4))
def t108_5 := b108_5
theorem u108_5 : vcK P t108_5 k e w = vcK P b108_5 k e w := rfl
abbrev b108_6 : X := (.reg [0, 4, 5] (.c (.q 14 [] (.mv (.t 5))) (.c (.q 15 [] (.bin .add (.t 14) (.c (.int .i64 1)))) (.c (.q 5 [] (.mv (.t 15))) .nil))))
def t108_6 := b108_6
theorem u108_6 : vcK P t108_6 k e w = vcK P b108_6 k e w := rfl
abbrev b108_7 : X := (.seq (.blk 1 (.seq (.reg [0, 4, 5, 18] (.c (.q 16 [] (.mv (.t 0))) (.c (.q 17 [] (.mv (.t 5))) (.c (.q 18 [] (.idx (.t 16) (.t 17))) .nil)))) t108_5)) t108_6)
def t108_7 := b108_7
theorem u108_7 : vcK P t108_7 k e w = vcK P b108_7 k e w := rfl
abbrev b108_8 : X := (.seq (.seq (.reg [0, 4, 5, 13] (.c (.q 10 [] (.mv (.t 5))) (.c (.q 11 [] (.mv (.t 0))) (.c (.q 12 [] (.len (.t 11))) (.c (.q 13 [] (.bin .lss (.t 10) (.t 12))) .nil))))) t108_2) t108_7)
def t108_8 := b108_8
theorem u108_8 : vcK P t108_8 k e w = vcK P b108_8 k e w := rfl
abbrev b108_9 : X := (.blk 0 (.loop [5] [0, 4] t108_8))
def t108_9 := b108_9
theorem u108_9 : vcK P t108_9 k e w = vcK P b108_9 k e w := rfl
abbrev b108_10 : X := (.seq (.reg [2, 3] (.c (.q 38 [] (.mv (.t 4))) (.c (.q 2 [] (.mv (.t 38))) (.c (.q 3 [] (.mv (.c (.bool true)))) .nil)))) .ret)
def t108_10 := b108_10
theorem u108_10 : vcK P t108_10 k e w = vcK P b108_10 k e w := rfl
abbrev b108_11 : X := (.seq (.seq (.reg [0, 4, 5] (.c (.q 5 [] (.mv (.c (.int .i64 0)))) .nil)) t108_9) t108_10)
def t108_11 := b108_11
theorem u108_11 : vcK P t108_11 k e w = vcK P b108_11 k e w := rfl
abbrev b108_12 : X := (.seq (.reg [0, 4] (.c (.e (some 9) [] (.bsl 3 1 [(.c (.int .i64 0)), (.c (.int .i64 0)), (.c (.int .i64 0))])) (.c (.q 4 [] (.mv (.t 9))) .nil))) t108_11)
def t108_12 := b108_12
theorem u108_12 : vcK P t108_12 k e w = vcK P b108_12 k e w := rfl
abbrev b108_13 : X := (.seq (.seq (.reg [0, 8] (.c (.q 6 [] (.mv (.t 0))) (.c (.e (some 7) [] (.call false 218 [(.t 6)])) (.c (.q 8 [] (.not (.t 7))) .nil)))) t108_1) t108_12)
def t108_13 := b108_13
theorem u108_13 : vcK P t108_13 k e w = vcK P b108_13 k e w := rfl
abbrev b108_0 : X := (.seq (.reg [0] (.c (.q 2 [] (.mv (.c (.slice none 0 0)))) (.c (.q 3 [] (.mv (.c (.bool false)))) .nil))) t108_13)
def x_sCallsIn := b108_0
theorem u108_0 : vcK P x_sCallsIn k e w = vcK P b108_0 k e w := rfl
def r_sCallsIn : List XO := [(.mv (.t 2)), (.mv (.t 3))]
theorem c_sCallsIn : convF Try.prog [169, 170, 207, 208, 210, 227, 232, 233, 255, 259, 268, 269, 270, 280, 281, 296, 299, 306, 307, 309] Try.f108 [([0], []), ([0, 8], []), ([2, 3], []), ([0, 4], []), ([0, 4, 5], []), ([5], [0, 4]), ([0, 4, 5, 13], []), ([0, 4, 5, 18], []), ([0, 4, 5, 18, 24], []), ([0, 4, 5], []), ([0, 4, 5, 31], []), ([0, 4, 5], []), ([0, 4, 5], []), ([0, 4, 5], []), ([2, 3], [])] = some (x_sCallsIn, r_sCallsIn) := by kernel_rfl
def us_sCallsIn := aI @u108_0 (aI @u108_1 (aI @u108_2 (aI @u108_3 (aI @u108_4 (aI @u108_5 (aI @u108_6 (aI @u108_7 (aI @u108_8 (aI @u108_9 (aI @u108_10 (aI @u108_11 (aI @u108_12 @u108_13))))))))))))
end

/-- Is a rotation asked? -/
def TurnOk (t : List UInt8) (n : Int) : Prop := IsTch t ∧ 0 ≤ n ∧ n < t.length
instance (t : List UInt8) (n : Int) : Decidable (TurnOk t n) := by unfold TurnOk; infer_instance
def turnTV (t : List UInt8) (n : Int) : List UInt8 := if TurnOk t n then turnT t n.toNat else []
theorem iTurnTouch_ok (t : List UInt8) (n : Int) (ht : t.length ≤ 1000000) (w : World) : Fn 101 [S t, .int .i64 n] w (fun r _ => r = .tuple ⟨[S (turnTV t n), .bool (decide (TurnOk t n))]⟩) := by
  (refine callsV_of mix Try.func101 c_iTurnTouch ?_; simp only [↓vsd, vsn, gW, qd, qv, ev, pick, argE, zipE, ne_eq, eq_self, forall_const, implies_true, if_true, if_false, reduceIte, reduceCtorEq, Nat.reduceEqDiff, Nat.reduceAdd, Nat.reduceLT, ↓us_iTurnTouch, r_iTurnTouch])
  refine m_call (iGoodTouch_okt t (by omega) _) ?_
  rintro _ w1 hx1 rfl
  by_cases hT : IsTch t
  · by_cases h0 : n < 0
    · have hn : ¬ TurnOk t n := fun hh => by have := hh.2.1; omega
      rw [turnTV, if_neg hn, decide_eq_false hn]
      simp only [↓vsd, vsn, gW, qd, qv, ev, pick, argE, zipE, ne_eq, eq_self, forall_const, implies_true, if_true, if_false, reduceIte, reduceCtorEq, Nat.reduceEqDiff, Nat.reduceAdd, Nat.reduceLT, ↓us_iTurnTouch, r_iTurnTouch, hT, h0]
      exact hx1
    · by_cases h1 : (t.length : Int) ≤ n
      · have hn : ¬ TurnOk t n := fun hh => by have := hh.2.2; omega
        rw [turnTV, if_neg hn, decide_eq_false hn]
        simp only [↓vsd, vsn, gW, qd, qv, ev, pick, argE, zipE, ne_eq, eq_self, forall_const, implies_true, if_true, if_false, reduceIte, reduceCtorEq, Nat.reduceEqDiff, Nat.reduceAdd, Nat.reduceLT, ↓us_iTurnTouch, r_iTurnTouch, hT, h0, h1]
        exact hx1
      · obtain ⟨m, rfl⟩ : ∃ m : Nat, n = m := ⟨n.toNat, by omega⟩
        have hn : TurnOk t m := ⟨hT, by omega, by omega⟩
        rw [turnTV, if_pos hn, decide_eq_true hn]
        simp only [↓vsd, vsn, gW, qd, qv, ev, pick, argE, zipE, ne_eq, eq_self, forall_const, implies_true, if_true, if_false, reduceIte, reduceCtorEq, Nat.reduceEqDiff, Nat.reduceAdd, Nat.reduceLT, ↓us_iTurnTouch, r_iTurnTouch, hT, h0, h1]
        exact ⟨by omega, by omega, by rw [List.length_drop, List.length_take]; omega, by first | exact hx1 | exact dr hx1, rfl⟩
  · have hn : ¬ TurnOk t n := fun hh => hT hh.1
    rw [turnTV, if_neg hn, decide_eq_false hn]
    simp only [↓vsd, vsn, gW, qd, qv, ev, pick, argE, zipE, ne_eq, eq_self, forall_const, implies_true, if_true, if_false, reduceIte, reduceCtorEq, Nat.reduceEqDiff, Nat.reduceAdd, Nat.reduceLT, ↓us_iTurnTouch, r_iTurnTouch, hT]
    exact hx1
theorem sl9Turn_ok (t : List UInt8) (n : Nat) (ht : t.length ≤ 1000000) (hn : n ≤ t.length) (w : World) : Fn 228 [S t, .int .i64 n] w (fun r _ => r = S (turnT t n)) := by
  (refine callsV_of mix Try.func228 c_sl9Turn ?_; simp only [↓vsd, vsn, gW, qd, qv, ev, pick, argE, zipE, ne_eq, eq_self, forall_const, implies_true, if_true, if_false, reduceIte, reduceCtorEq, Nat.reduceEqDiff, Nat.reduceAdd, Nat.reduceLT, ↓us_sl9Turn, r_sl9Turn])
  exact ⟨by omega, by omega, by rw [List.length_drop, List.length_take]; omega, by first | exact Ext.refl _ | exact dr (Ext.refl _), rfl⟩
theorem sTurnTouch_ok (t : List UInt8) (n : Int) (ht : t.length ≤ 1000000) (w : World) : Fn 102 [S t, .int .i64 n] w (fun r _ => r = .tuple ⟨[S (turnTV t n), .bool (decide (TurnOk t n))]⟩) := by
  (refine callsV_of mix Try.func102 c_sTurnTouch ?_; simp only [↓vsd, vsn, gW, qd, qv, ev, pick, argE, zipE, ne_eq, eq_self, forall_const, implies_true, if_true, if_false, reduceIte, reduceCtorEq, Nat.reduceEqDiff, Nat.reduceAdd, Nat.reduceLT, ↓us_sTurnTouch, r_sTurnTouch])
  refine m_call (sl9Good_okt t (by omega) _) ?_
  rintro _ w1 hx1 rfl
  by_cases hT : IsTch t
  · have hl := hT.1
    simp only [↓vsd, vsn, gW, qd, qv, ev, pick, argE, zipE, ne_eq, eq_self, forall_const, implies_true, if_true, if_false, reduceIte, reduceCtorEq, Nat.reduceEqDiff, Nat.reduceAdd, Nat.reduceLT, ↓us_sTurnTouch, r_sTurnTouch, hT]
    refine ⟨inR_i64 (by omega), m_call (sl1In_ok _ _ _ _) ?_⟩
    rintro _ w2 hx2 rfl
    have hx2 : Ext w1 w2 := by first | exact hx2 | exact ud hx2
    by_cases hb : 0 ≤ n ∧ n ≤ (t.length : Int) - 1
    · obtain ⟨m, rfl⟩ : ∃ m : Nat, n = m := ⟨n.toNat, by omega⟩
      have hbD : (decide (0 ≤ (m : Int)) && decide ((m : Int) ≤ (t.length : Int) - 1)) = true := by rw [← Bool.decide_and]; exact decide_eq_true hb
      have hn : TurnOk t m := ⟨hT, by omega, by omega⟩
      rw [turnTV, if_pos hn, decide_eq_true hn]
      simp only [↓vsd, vsn, gW, qd, qv, ev, pick, argE, zipE, ne_eq, eq_self, forall_const, implies_true, if_true, if_false, reduceIte, reduceCtorEq, Nat.reduceEqDiff, Nat.reduceAdd, Nat.reduceLT, ↓us_sTurnTouch, r_sTurnTouch, hbD]
      refine m_call (sl9Turn_ok t m ht (by omega) _) ?_
      rintro _ w3 hx3 rfl
      simp only [↓vsd, vsn, gW, qd, qv, ev, pick, argE, zipE, ne_eq, eq_self, forall_const, implies_true, if_true, if_false, reduceIte, reduceCtorEq, Nat.reduceEqDiff, Nat.reduceAdd, Nat.reduceLT, ↓us_sTurnTouch, r_sTurnTouch]
      exact (hx1.trans hx2).trans hx3
    · have hbD : (decide (0 ≤ n) && decide (n ≤ (t.length : Int) - 1)) = false := by rw [← Bool.decide_and]; exact decide_eq_false hb
      have hn : ¬ TurnOk t n := fun hh => hb ⟨hh.2.1, by have := hh.2.2; omega⟩
      rw [turnTV, if_neg hn, decide_eq_false hn]
      simp only [↓vsd, vsn, gW, qd, qv, ev, pick, argE, zipE, ne_eq, eq_self, forall_const, implies_true, if_true, if_false, reduceIte, reduceCtorEq, Nat.reduceEqDiff, Nat.reduceAdd, Nat.reduceLT, ↓us_sTurnTouch, r_sTurnTouch, hbD]
      exact hx1.trans hx2
  · have hn : ¬ TurnOk t n := fun hh => hT hh.1
    rw [turnTV, if_neg hn, decide_eq_false hn]
    simp only [↓vsd, vsn, gW, qd, qv, ev, pick, argE, zipE, ne_eq, eq_self, forall_const, implies_true, if_true, if_false, reduceIte, reduceCtorEq, Nat.reduceEqDiff, Nat.reduceAdd, Nat.reduceLT, ↓us_sTurnTouch, r_sTurnTouch, hT]
    exact hx1
theorem leastTo_len (t : List UInt8) : ∀ k, k ≤ t.length → (leastTo t k).length = t.length := by
  intro k
  induction k with
  | zero => intro _; rfl
  | succ k ih =>
    intro hk
    show (minT _ _).length = _
    rcases minT_or (leastTo t k) (turnT t k) with e | e <;> rw [e]
    · exact ih (by omega)
    · exact turnT_len t k (by omega)
theorem ileastTurn_f (t : List UInt8) (ht : t.length ≤ 1000000) (w : World) : Fn 229 [S t, .bool false] w (fun r _ => r = S (leastL t)) := by
  (refine callsV_of mix Try.func229 c_ileastTurn ?_; simp only [↓vsd, vsn, gW, qd, qv, ev, pick, argE, zipE, ne_eq, eq_self, forall_const, implies_true, if_true, if_false, reduceIte, reduceCtorEq, Nat.reduceEqDiff, Nat.reduceAdd, Nat.reduceLT, ↓us_ileastTurn, r_ileastTurn])
  refine m_upto t.length (fun k vs w' => vs = [S (leastTo t k), .int .i64 k] ∧ Ext w w') ⟨rfl, Ext.refl _⟩ ?_
  rintro k vs w1 hk ⟨rfl, hx⟩
  have hll := leastTo_len t k hk
  by_cases hlt : k < t.length
  · have hltI : (k : Int) < t.length := by omega
    have hltJ : ¬ (t.length : Int) ≤ k := by omega
    simp only [↓vsd, vsn, gW, qd, qv, ev, pick, argE, zipE, ne_eq, eq_self, forall_const, implies_true, if_true, if_false, reduceIte, reduceCtorEq, Nat.reduceEqDiff, Nat.reduceAdd, Nat.reduceLT, ↓us_ileastTurn, r_ileastTurn, hltI, hltJ]
    refine ⟨by omega, by omega, by rw [List.length_drop, List.length_take]; omega, inR_i64 (by omega), UpTo.next hlt ⟨?_, by first | exact hx | exact dr hx⟩⟩
    rw [minT_mn']
    rfl
  · obtain rfl : k = t.length := by omega
    have hltI : ¬ (t.length : Int) < t.length := by omega
    simp only [↓vsd, vsn, gW, qd, qv, ev, pick, argE, zipE, ne_eq, eq_self, forall_const, implies_true, if_true, if_false, reduceIte, reduceCtorEq, Nat.reduceEqDiff, Nat.reduceAdd, Nat.reduceLT, ↓us_ileastTurn, r_ileastTurn, hltI]
    exact ⟨hx, rfl⟩
theorem ileastTurn_ok (t : List UInt8) (both : Bool) (ht : 1 ≤ t.length ∧ t.length ≤ 1000000) (w : World) : Fn 229 [S t, .bool both] w (fun r _ => r = S (leastB (backL t) t both)) := by
  cases both with
  | false => exact ileastTurn_f t ht.2 w
  | true =>
    (refine callsV_of mix Try.func229 c_ileastTurn ?_; simp only [↓vsd, vsn, gW, qd, qv, ev, pick, argE, zipE, ne_eq, eq_self, forall_const, implies_true, if_true, if_false, reduceIte, reduceCtorEq, Nat.reduceEqDiff, Nat.reduceAdd, Nat.reduceLT, ↓us_ileastTurn, r_ileastTurn])
    refine m_upto t.length (fun k vs w' => vs = [S (leastTo t k), .int .i64 k] ∧ Ext w w') ⟨rfl, Ext.refl _⟩ ?_
    rintro k vs w1 hk ⟨rfl, hx⟩
    have hll := leastTo_len t k hk
    by_cases hlt : k < t.length
    · have hltI : (k : Int) < t.length := by omega
      have hltJ : ¬ (t.length : Int) ≤ k := by omega
      simp only [↓vsd, vsn, gW, qd, qv, ev, pick, argE, zipE, ne_eq, eq_self, forall_const, implies_true, if_true, if_false, reduceIte, reduceCtorEq, Nat.reduceEqDiff, Nat.reduceAdd, Nat.reduceLT, ↓us_ileastTurn, r_ileastTurn, hltI, hltJ]
      refine ⟨by omega, by omega, by rw [List.length_drop, List.length_take]; omega, inR_i64 (by omega), UpTo.next hlt ⟨?_, by first | exact hx | exact dr hx⟩⟩
      rw [minT_mn']
      rfl
    · obtain rfl : k = t.length := by omega
      have hltI : ¬ (t.length : Int) < t.length := by omega
      simp only [↓vsd, vsn, gW, qd, qv, ev, pick, argE, zipE, ne_eq, eq_self, forall_const, implies_true, if_true, if_false, reduceIte, reduceCtorEq, Nat.reduceEqDiff, Nat.reduceAdd, Nat.reduceLT, ↓us_ileastTurn, r_ileastTurn, hltI]
      refine m_call (ibackwards_ok t ht _) ?_
      rintro _ w2 hx2 rfl
      simp only [↓vsd, vsn, gW, qd, qv, ev, pick, argE, zipE, ne_eq, eq_self, forall_const, implies_true, if_true, if_false, reduceIte, reduceCtorEq, Nat.reduceEqDiff, Nat.reduceAdd, Nat.reduceLT, ↓us_ileastTurn, r_ileastTurn]
      refine m_call (ileastTurn_f (backL t) (by rw [backL_len]; exact ht.2) _) ?_
      rintro _ w3 hx3 rfl
      simp only [↓vsd, vsn, gW, qd, qv, ev, pick, argE, zipE, ne_eq, eq_self, forall_const, implies_true, if_true, if_false, reduceIte, reduceCtorEq, Nat.reduceEqDiff, Nat.reduceAdd, Nat.reduceLT, ↓us_ileastTurn, r_ileastTurn]
      refine ⟨(hx.trans hx2).trans hx3, ?_⟩
      rw [minT_mn']
      rfl
def leastV (t : List UInt8) (both : Bool) : Value := if IsTch t then .tuple ⟨[S (leastB (backL t) t both), .bool true]⟩ else .tuple ⟨[S [], .bool false]⟩
theorem iLeastTurn_ok (t : List UInt8) (both : Bool) (ht : t.length ≤ 1000000) (w : World) : Fn 104 [S t, .bool both] w (fun r _ => r = leastV t both) := by
  (refine callsV_of mix Try.func104 c_iLeastTurn ?_; simp only [↓vsd, vsn, gW, qd, qv, ev, pick, argE, zipE, ne_eq, eq_self, forall_const, implies_true, if_true, if_false, reduceIte, reduceCtorEq, Nat.reduceEqDiff, Nat.reduceAdd, Nat.reduceLT, ↓us_iLeastTurn, r_iLeastTurn])
  refine m_call (iGoodTouch_okt t (by omega) _) ?_
  rintro _ w1 hx1 rfl
  by_cases hT : IsTch t
  · simp only [↓vsd, vsn, gW, qd, qv, ev, pick, argE, zipE, ne_eq, eq_self, forall_const, implies_true, if_true, if_false, reduceIte, reduceCtorEq, Nat.reduceEqDiff, Nat.reduceAdd, Nat.reduceLT, ↓us_iLeastTurn, r_iLeastTurn, hT]
    refine m_call (ileastTurn_ok t both ⟨hT.1.1, ht⟩ _) ?_
    rintro _ w2 hx2 rfl
    simp only [↓vsd, vsn, gW, qd, qv, ev, pick, argE, zipE, ne_eq, eq_self, forall_const, implies_true, if_true, if_false, reduceIte, reduceCtorEq, Nat.reduceEqDiff, Nat.reduceAdd, Nat.reduceLT, ↓us_iLeastTurn, r_iLeastTurn]
    exact ⟨hx1.trans hx2, by rw [leastV, if_pos hT]⟩
  · simp only [↓vsd, vsn, gW, qd, qv, ev, pick, argE, zipE, ne_eq, eq_self, forall_const, implies_true, if_true, if_false, reduceIte, reduceCtorEq, Nat.reduceEqDiff, Nat.reduceAdd, Nat.reduceLT, ↓us_iLeastTurn, r_iLeastTurn, hT]
    exact ⟨hx1, by rw [leastV, if_neg hT]⟩
theorem sl9Least_ok (t : List UInt8) (ht : t.length ≤ 1000000) (h128 : ∀ c ∈ t, c.toNat < 128) (w : World) : Fn 230 [S t] w (fun r _ => r = S (leastL t)) := by
  (refine callsV_of mix Try.func230 c_sl9Least ?_; simp only [↓vsd, vsn, gW, qd, qv, ev, pick, argE, zipE, ne_eq, eq_self, forall_const, implies_true, if_true, if_false, reduceIte, reduceCtorEq, Nat.reduceEqDiff, Nat.reduceAdd, Nat.reduceLT, ↓us_sl9Least, r_sl9Least])
  refine m_rng ?_
  rintro bi w1 hbi hit hx1 hs1
  simp only [↓vsd, vsn, gW, qd, qv, ev, pick, argE, zipE, ne_eq, eq_self, forall_const, implies_true, if_true, if_false, reduceIte, reduceCtorEq, Nat.reduceEqDiff, Nat.reduceAdd, Nat.reduceLT, ↓us_sl9Least, r_sl9Least]
  refine m_upto t.length (fun k vs w' => vs = [S (leastTo t k)] ∧ Ext w w' ∧ Itr w' bi t k) ⟨rfl, hx1, hit⟩ ?_
  rintro k vs w2 hk ⟨rfl, hx, hit2⟩
  simp only [↓vsd, vsn, gW, qd, qv, ev, pick, argE, zipE, ne_eq, eq_self, forall_const, implies_true, if_true, if_false, reduceIte, reduceCtorEq, Nat.reduceEqDiff, Nat.reduceAdd, Nat.reduceLT, ↓us_sl9Least, r_sl9Least]
  refine m_nxt hit2 h128 ?_ ?_
  · intro hlt wa hita hua
    have hxa : Ext w wa := hua.below hx (by omega)
    simp only [↓vsd, vsn, gW, qd, qv, ev, pick, argE, zipE, ne_eq, eq_self, forall_const, implies_true, if_true, if_false, reduceIte, reduceCtorEq, Nat.reduceEqDiff, Nat.reduceAdd, Nat.reduceLT, ↓us_sl9Least, r_sl9Least]
    refine m_call (sl9Turn_ok t k ht (by omega) _) ?_
    rintro _ wb hxb rfl
    have hxb : Ext wa wb := by first | exact hxb | exact ud hxb
    simp only [↓vsd, vsn, gW, qd, qv, ev, pick, argE, zipE, ne_eq, eq_self, forall_const, implies_true, if_true, if_false, reduceIte, reduceCtorEq, Nat.reduceEqDiff, Nat.reduceAdd, Nat.reduceLT, ↓us_sl9Least, r_sl9Least]
    refine ⟨fun hl => UpTo.next hlt ⟨?_, hxa.trans hxb, hita.ext hxb⟩, fun hl => UpTo.next hlt ⟨?_, hxa.trans hxb, hita.ext hxb⟩⟩
    · show [S (turnT t k)] = [S (minT (leastTo t k) (turnT t k))]
      rw [minT, if_pos hl]
    · show [S (leastTo t k)] = [S (minT (leastTo t k) (turnT t k))]
      rw [minT, if_neg (by simpa using hl)]
  · intro hge
    obtain rfl : k = t.length := by omega
    simp only [↓vsd, vsn, gW, qd, qv, ev, pick, argE, zipE, ne_eq, eq_self, forall_const, implies_true, if_true, if_false, reduceIte, reduceCtorEq, Nat.reduceEqDiff, Nat.reduceAdd, Nat.reduceLT, ↓us_sl9Least, r_sl9Least]
    exact ⟨hx, rfl⟩
theorem sLeastTurn_ok (t : List UInt8) (both : Bool) (ht : t.length ≤ 1000000) (w : World) : Fn 105 [S t, .bool both] w (fun r _ => r = leastV t both) := by
  (refine callsV_of mix Try.func105 c_sLeastTurn ?_; simp only [↓vsd, vsn, gW, qd, qv, ev, pick, argE, zipE, ne_eq, eq_self, forall_const, implies_true, if_true, if_false, reduceIte, reduceCtorEq, Nat.reduceEqDiff, Nat.reduceAdd, Nat.reduceLT, ↓us_sLeastTurn, r_sLeastTurn])
  refine m_call (sl9Good_okt t (by omega) _) ?_
  rintro _ w1 hx1 rfl
  by_cases hT : IsTch t
  · simp only [↓vsd, vsn, gW, qd, qv, ev, pick, argE, zipE, ne_eq, eq_self, forall_const, implies_true, if_true, if_false, reduceIte, reduceCtorEq, Nat.reduceEqDiff, Nat.reduceAdd, Nat.reduceLT, ↓us_sLeastTurn, r_sLeastTurn, hT]
    refine m_call (sl9Least_ok t ht (tch_low hT) _) ?_
    rintro _ w2 hx2 rfl
    simp only [↓vsd, vsn, gW, qd, qv, ev, pick, argE, zipE, ne_eq, eq_self, forall_const, implies_true, if_true, if_false, reduceIte, reduceCtorEq, Nat.reduceEqDiff, Nat.reduceAdd, Nat.reduceLT, ↓us_sLeastTurn, r_sLeastTurn]
    refine m_call (sl9Reverse_ok t ⟨hT.1.1, ht⟩ _) ?_
    rintro _ w3 hx3 rfl
    simp only [↓vsd, vsn, gW, qd, qv, ev, pick, argE, zipE, ne_eq, eq_self, forall_const, implies_true, if_true, if_false, reduceIte, reduceCtorEq, Nat.reduceEqDiff, Nat.reduceAdd, Nat.reduceLT, ↓us_sLeastTurn, r_sLeastTurn]
    refine m_call (sl9Least_ok (backL t) (by rw [backL_len]; exact ht) (tch_low (tch_back hT)) _) ?_
    rintro _ w4 hx4 rfl
    have hx14 := ((hx1.trans hx2).trans hx3).trans hx4
    cases both with
    | false =>
      simp only [↓vsd, vsn, gW, qd, qv, ev, pick, argE, zipE, ne_eq, eq_self, forall_const, implies_true, if_true, if_false, reduceIte, reduceCtorEq, Nat.reduceEqDiff, Nat.reduceAdd, Nat.reduceLT, ↓us_sLeastTurn, r_sLeastTurn]
      exact ⟨hx14, by rw [leastV, if_pos hT]; rfl⟩
    | true =>
      simp only [↓vsd, vsn, gW, qd, qv, ev, pick, argE, zipE, ne_eq, eq_self, forall_const, implies_true, if_true, if_false, reduceIte, reduceCtorEq, Nat.reduceEqDiff, Nat.reduceAdd, Nat.reduceLT, ↓us_sLeastTurn, r_sLeastTurn]
      refine ⟨fun hl => ⟨hx14, ?_⟩, fun hl => ⟨hx14, ?_⟩⟩
      · rw [leastV, if_pos hT, leastB, if_pos rfl, minT, if_pos hl]
      · rw [leastV, if_pos hT, leastB, if_pos rfl, minT, if_neg (by simpa using hl)]
  · simp only [↓vsd, vsn, gW, qd, qv, ev, pick, argE, zipE, ne_eq, eq_self, forall_const, implies_true, if_true, if_false, reduceIte, reduceCtorEq, Nat.reduceEqDiff, Nat.reduceAdd, Nat.reduceLT, ↓us_sLeastTurn, r_sLeastTurn, hT]
    exact ⟨hx1, by rw [leastV, if_neg hT]⟩
theorem Own.lit {α : Type} {f : α → List Value} {z E B n : Nat} {w : World} {b : Nat} {cs : List Value} (l : List α) (hz : ∀ a, (f a).length = z) (hb : Blk w b cs E) (e : cs = l.flatMap f) (hn : n = l.length) (hB : B ≤ b) (hm : n ≤ 1000) : Own f z E B w (.slice (some ⟨b, 0, none⟩) n n) l := by
  subst e; subst hn
  exact ⟨hz, .inr ⟨b, l.length, l.flatMap f, rfl, hB, hb, Nat.le_refl _, by unfold maxLen; omega, flat_len hz l, by rw [← flat_len hz l, List.take_length]⟩⟩
/-- How many of the first calls are plain, bobs, and others. -/
def cntC (t : List UInt8) : Nat → List Int
  | 0 => [0, 0, 0]
  | k + 1 => let l := cntC t k; if t.getD k 0 = 112 then l.set 0 (l.getD 0 0 + 1) else if t.getD k 0 = 98 then l.set 1 (l.getD 1 0 + 1) else l.set 2 (l.getD 2 0 + 1)
theorem cntC_is (t : List UInt8) : ∀ k, ∃ a b c : Nat, cntC t k = [(a : Int), (b : Int), (c : Int)] ∧ a + b + c = k := by
  intro k
  induction k with
  | zero => exact ⟨0, 0, 0, rfl, rfl⟩
  | succ k ih =>
    obtain ⟨a, b, c, e, h⟩ := ih
    unfold cntC
    simp only [e]
    split
    · exact ⟨a + 1, b, c, rfl, by omega⟩
    · split
      · exact ⟨a, b + 1, c, rfl, by omega⟩
      · exact ⟨a, b, c + 1, rfl, by omega⟩
def callsL (t : List UInt8) : List Int := if IsTch t then cntC t t.length else []
theorem iCallsIn_ok (t : List UInt8) (ht : t.length ≤ 1000000) (w : World) : Fn 107 [S t] w (fun r w' => ∃ x, r = .tuple ⟨[x, .bool (decide (IsTch t))]⟩ ∧ Own fI 1 3 w.heap.size w' x (callsL t)) := by
  (refine callsV_of mix Try.func107 c_iCallsIn ?_; simp only [↓vsd, vsn, gW, qd, qv, ev, pick, argE, zipE, ne_eq, eq_self, forall_const, implies_true, if_true, if_false, reduceIte, reduceCtorEq, Nat.reduceEqDiff, Nat.reduceAdd, Nat.reduceLT, ↓us_iCallsIn, r_iCallsIn])
  refine m_call (iGoodTouch_okt t (by omega) _) ?_
  rintro _ w0 hx0 rfl
  by_cases hT : IsTch t
  · simp only [↓vsd, vsn, gW, qd, qv, ev, pick, argE, zipE, ne_eq, eq_self, forall_const, implies_true, if_true, if_false, reduceIte, reduceCtorEq, Nat.reduceEqDiff, Nat.reduceAdd, Nat.reduceLT, ↓us_iCallsIn, r_iCallsIn, hT]
    refine m_bsl (by simp; repeat' constructor) ?_
    rintro by_ wy hby hblky hxy hsy
    have hoy : Own fI 1 3 w0.heap.size wy (.slice (some ⟨by_, 0, none⟩) 3 3) [(0 : Int), 0, 0] := Own.lit _ fI_len hblky rfl rfl (by omega) (by decide)
    simp only [↓vsd, vsn, gW, qd, qv, ev, pick, argE, zipE, ne_eq, eq_self, forall_const, implies_true, if_true, if_false, reduceIte, reduceCtorEq, Nat.reduceEqDiff, Nat.reduceAdd, Nat.reduceLT, ↓us_iCallsIn, r_iCallsIn]
    generalize hy : Value.slice (some ⟨by_, 0, none⟩) 3 3 = y at *
    refine m_upto t.length (fun k vs w' => vs = [.int .i64 k] ∧ Own fI 1 3 w0.heap.size w' y (cntC t k) ∧ Ext w0 w') ⟨rfl, hoy, hxy⟩ ?_
    rintro k vs w1 hk ⟨rfl, ho, hx⟩
    by_cases hlt : k < t.length
    · have hltI : (k : Int) < t.length := by omega
      have hltJ : ¬ (t.length : Int) ≤ k := by omega
      obtain ⟨a, b, c, ec, habc⟩ := cntC_is t k
      have hsu : cntC t (k + 1) = if t.getD k 0 = 112 then (cntC t k).set 0 ((cntC t k).getD 0 0 + 1) else if t.getD k 0 = 98 then (cntC t k).set 1 ((cntC t k).getD 1 0 + 1) else (cntC t k).set 2 ((cntC t k).getD 2 0 + 1) := rfl
      rw [ec] at ho hsu
      have hq := ho.sq
      have g0 := hq.at1 0 (i := 0) (by simp)
      have g1 := hq.at1 0 (i := 1) (by simp)
      have g2 := hq.at1 0 (i := 2) (by simp)
      have gv : ([(a : Int), (b : Int), (c : Int)].getD 0 0 = a ∧ [(a : Int), (b : Int), (c : Int)].getD 1 0 = b) ∧ [(a : Int), (b : Int), (c : Int)].getD 2 0 = c := ⟨⟨rfl, rfl⟩, rfl⟩
      have g0' : ∀ kk : IntKind, ldV w1 (iaV 1 y (.int kk 0)) = .int .i64 a ∧ ldD w1 (iaV 1 y (.int kk 0)) = True := fun kk => ⟨(g0 kk).1, (g0 kk).2⟩
      have g1' : ∀ kk : IntKind, ldV w1 (iaV 1 y (.int kk 1)) = .int .i64 b ∧ ldD w1 (iaV 1 y (.int kk 1)) = True := fun kk => ⟨(g1 kk).1, (g1 kk).2⟩
      have g2' : ∀ kk : IntKind, ldV w1 (iaV 1 y (.int kk 2)) = .int .i64 c ∧ ldD w1 (iaV 1 y (.int kk 2)) = True := fun kk => ⟨(g2 kk).1, (g2 kk).2⟩
      simp only [↓vsd, vsn, gW, qd, qv, ev, pick, argE, zipE, ne_eq, eq_self, forall_const, implies_true, if_true, if_false, reduceIte, reduceCtorEq, Nat.reduceEqDiff, Nat.reduceAdd, Nat.reduceLT, ↓us_iCallsIn, r_iCallsIn, hltI, hltJ, hq.facts, g0', g1', g2']
      refine ⟨by omega, fun h112 => ⟨by decide, inR_i64 (by omega), by decide, m_set1 0 ((a : Int) + 1) ho rfl (by simp) rfl fI_one ?_⟩, fun h112 => ⟨fun h98 => ⟨by decide, inR_i64 (by omega), by decide, m_set1 1 ((b : Int) + 1) ho rfl (by simp) rfl fI_one ?_⟩, fun h98 => ⟨by decide, inR_i64 (by omega), by decide, m_set1 2 ((c : Int) + 1) ho rfl (by simp) rfl fI_one ?_⟩⟩⟩
      · rintro w3 ho3 hg3 _
        simp only [↓vsd, vsn, gW, qd, qv, ev, pick, argE, zipE, ne_eq, eq_self, forall_const, implies_true, if_true, if_false, reduceIte, reduceCtorEq, Nat.reduceEqDiff, Nat.reduceAdd, Nat.reduceLT, ↓us_iCallsIn, r_iCallsIn]
        exact ⟨inR_i64 (by omega), UpTo.next hlt ⟨rfl, ho3.to (by rw [hsu, if_pos (UInt8.toNat_inj.1 (show _ = 112 by omega))]; rfl), ho.grown hx (Nat.le_refl _) hg3⟩⟩
      · rintro w3 ho3 hg3 _
        simp only [↓vsd, vsn, gW, qd, qv, ev, pick, argE, zipE, ne_eq, eq_self, forall_const, implies_true, if_true, if_false, reduceIte, reduceCtorEq, Nat.reduceEqDiff, Nat.reduceAdd, Nat.reduceLT, ↓us_iCallsIn, r_iCallsIn]
        exact ⟨inR_i64 (by omega), UpTo.next hlt ⟨rfl, ho3.to (by rw [hsu, if_neg (fun e => h112 (by rw [e]; rfl)), if_pos (UInt8.toNat_inj.1 (show _ = 98 by omega))]; rfl), ho.grown hx (Nat.le_refl _) hg3⟩⟩
      · rintro w3 ho3 hg3 _
        simp only [↓vsd, vsn, gW, qd, qv, ev, pick, argE, zipE, ne_eq, eq_self, forall_const, implies_true, if_true, if_false, reduceIte, reduceCtorEq, Nat.reduceEqDiff, Nat.reduceAdd, Nat.reduceLT, ↓us_iCallsIn, r_iCallsIn]
        exact ⟨inR_i64 (by omega), UpTo.next hlt ⟨rfl, ho3.to (by rw [hsu, if_neg (fun e => h112 (by rw [e]; rfl)), if_neg (fun e => h98 (by rw [e]; rfl))]; rfl), ho.grown hx (Nat.le_refl _) hg3⟩⟩
    · obtain rfl : k = t.length := by omega
      have hltI : ¬ (t.length : Int) < t.length := by omega
      simp only [↓vsd, vsn, gW, qd, qv, ev, pick, argE, zipE, ne_eq, eq_self, forall_const, implies_true, if_true, if_false, reduceIte, reduceCtorEq, Nat.reduceEqDiff, Nat.reduceAdd, Nat.reduceLT, ↓us_iCallsIn, r_iCallsIn, hltI]
      exact ⟨hx0.trans hx, y, rfl, by rw [callsL, if_pos hT]; exact ho.mono hx0.size⟩
  · simp only [↓vsd, vsn, gW, qd, qv, ev, pick, argE, zipE, ne_eq, eq_self, forall_const, implies_true, if_true, if_false, reduceIte, reduceCtorEq, Nat.reduceEqDiff, Nat.reduceAdd, Nat.reduceLT, ↓us_iCallsIn, r_iCallsIn, hT]
    exact ⟨hx0, _, rfl, by rw [callsL, if_neg hT]; exact Own.nil fI_len⟩
theorem sCallsIn_ok (t : List UInt8) (ht : t.length ≤ 1000000) (w : World) : Fn 108 [S t] w (fun r w' => ∃ x, r = .tuple ⟨[x, .bool (decide (IsTch t))]⟩ ∧ Own fI 1 3 w.heap.size w' x (callsL t)) := by
  (refine callsV_of mix Try.func108 c_sCallsIn ?_; simp only [↓vsd, vsn, gW, qd, qv, ev, pick, argE, zipE, ne_eq, eq_self, forall_const, implies_true, if_true, if_false, reduceIte, reduceCtorEq, Nat.reduceEqDiff, Nat.reduceAdd, Nat.reduceLT, ↓us_sCallsIn, r_sCallsIn])
  refine m_call (sl9Good_okt t (by omega) _) ?_
  rintro _ w0 hx0 rfl
  by_cases hT : IsTch t
  · simp only [↓vsd, vsn, gW, qd, qv, ev, pick, argE, zipE, ne_eq, eq_self, forall_const, implies_true, if_true, if_false, reduceIte, reduceCtorEq, Nat.reduceEqDiff, Nat.reduceAdd, Nat.reduceLT, ↓us_sCallsIn, r_sCallsIn, hT]
    refine m_bsl (by simp; repeat' constructor) ?_
    rintro by_ wy hby hblky hxy hsy
    have hoy : Own fI 1 3 w0.heap.size wy (.slice (some ⟨by_, 0, none⟩) 3 3) [(0 : Int), 0, 0] := Own.lit _ fI_len hblky rfl rfl (by omega) (by decide)
    simp only [↓vsd, vsn, gW, qd, qv, ev, pick, argE, zipE, ne_eq, eq_self, forall_const, implies_true, if_true, if_false, reduceIte, reduceCtorEq, Nat.reduceEqDiff, Nat.reduceAdd, Nat.reduceLT, ↓us_sCallsIn, r_sCallsIn]
    generalize hy : Value.slice (some ⟨by_, 0, none⟩) 3 3 = y at *
    refine m_upto t.length (fun k vs w' => vs = [.int .i64 k] ∧ Own fI 1 3 w0.heap.size w' y (cntC t k) ∧ Ext w0 w') ⟨rfl, hoy, hxy⟩ ?_
    rintro k vs w1 hk ⟨rfl, ho, hx⟩
    by_cases hlt : k < t.length
    · have hltI : (k : Int) < t.length := by omega
      have hltJ : ¬ (t.length : Int) ≤ k := by omega
      obtain ⟨a, b, c, ec, habc⟩ := cntC_is t k
      have hsu : cntC t (k + 1) = if t.getD k 0 = 112 then (cntC t k).set 0 ((cntC t k).getD 0 0 + 1) else if t.getD k 0 = 98 then (cntC t k).set 1 ((cntC t k).getD 1 0 + 1) else (cntC t k).set 2 ((cntC t k).getD 2 0 + 1) := rfl
      rw [ec] at ho hsu
      have hq := ho.sq
      have g0 := hq.at1 0 (i := 0) (by simp)
      have g1 := hq.at1 0 (i := 1) (by simp)
      have g2 := hq.at1 0 (i := 2) (by simp)
      have gv : ([(a : Int), (b : Int), (c : Int)].getD 0 0 = a ∧ [(a : Int), (b : Int), (c : Int)].getD 1 0 = b) ∧ [(a : Int), (b : Int), (c : Int)].getD 2 0 = c := ⟨⟨rfl, rfl⟩, rfl⟩
      have g0' : ∀ kk : IntKind, ldV w1 (iaV 1 y (.int kk 0)) = .int .i64 a ∧ ldD w1 (iaV 1 y (.int kk 0)) = True := fun kk => ⟨(g0 kk).1, (g0 kk).2⟩
      have g1' : ∀ kk : IntKind, ldV w1 (iaV 1 y (.int kk 1)) = .int .i64 b ∧ ldD w1 (iaV 1 y (.int kk 1)) = True := fun kk => ⟨(g1 kk).1, (g1 kk).2⟩
      have g2' : ∀ kk : IntKind, ldV w1 (iaV 1 y (.int kk 2)) = .int .i64 c ∧ ldD w1 (iaV 1 y (.int kk 2)) = True := fun kk => ⟨(g2 kk).1, (g2 kk).2⟩
      simp only [↓vsd, vsn, gW, qd, qv, ev, pick, argE, zipE, ne_eq, eq_self, forall_const, implies_true, if_true, if_false, reduceIte, reduceCtorEq, Nat.reduceEqDiff, Nat.reduceAdd, Nat.reduceLT, ↓us_sCallsIn, r_sCallsIn, hltI, hltJ, hq.facts, g0', g1', g2']
      refine ⟨by omega, fun h112 => ⟨by decide, inR_i64 (by omega), by decide, m_set1 0 ((a : Int) + 1) ho rfl (by simp) rfl fI_one ?_⟩, fun h112 => ⟨fun h98 => ⟨by decide, inR_i64 (by omega), by decide, m_set1 1 ((b : Int) + 1) ho rfl (by simp) rfl fI_one ?_⟩, fun h98 => ⟨by decide, inR_i64 (by omega), by decide, m_set1 2 ((c : Int) + 1) ho rfl (by simp) rfl fI_one ?_⟩⟩⟩
      · rintro w3 ho3 hg3 _
        simp only [↓vsd, vsn, gW, qd, qv, ev, pick, argE, zipE, ne_eq, eq_self, forall_const, implies_true, if_true, if_false, reduceIte, reduceCtorEq, Nat.reduceEqDiff, Nat.reduceAdd, Nat.reduceLT, ↓us_sCallsIn, r_sCallsIn]
        exact ⟨inR_i64 (by omega), UpTo.next hlt ⟨rfl, ho3.to (by rw [hsu, if_pos (UInt8.toNat_inj.1 (show _ = 112 by omega))]; rfl), ho.grown hx (Nat.le_refl _) hg3⟩⟩
      · rintro w3 ho3 hg3 _
        simp only [↓vsd, vsn, gW, qd, qv, ev, pick, argE, zipE, ne_eq, eq_self, forall_const, implies_true, if_true, if_false, reduceIte, reduceCtorEq, Nat.reduceEqDiff, Nat.reduceAdd, Nat.reduceLT, ↓us_sCallsIn, r_sCallsIn]
        exact ⟨inR_i64 (by omega), UpTo.next hlt ⟨rfl, ho3.to (by rw [hsu, if_neg (fun e => h112 (by rw [e]; rfl)), if_pos (UInt8.toNat_inj.1 (show _ = 98 by omega))]; rfl), ho.grown hx (Nat.le_refl _) hg3⟩⟩
      · rintro w3 ho3 hg3 _
        simp only [↓vsd, vsn, gW, qd, qv, ev, pick, argE, zipE, ne_eq, eq_self, forall_const, implies_true, if_true, if_false, reduceIte, reduceCtorEq, Nat.reduceEqDiff, Nat.reduceAdd, Nat.reduceLT, ↓us_sCallsIn, r_sCallsIn]
        exact ⟨inR_i64 (by omega), UpTo.next hlt ⟨rfl, ho3.to (by rw [hsu, if_neg (fun e => h112 (by rw [e]; rfl)), if_neg (fun e => h98 (by rw [e]; rfl))]; rfl), ho.grown hx (Nat.le_refl _) hg3⟩⟩
    · obtain rfl : k = t.length := by omega
      have hltI : ¬ (t.length : Int) < t.length := by omega
      simp only [↓vsd, vsn, gW, qd, qv, ev, pick, argE, zipE, ne_eq, eq_self, forall_const, implies_true, if_true, if_false, reduceIte, reduceCtorEq, Nat.reduceEqDiff, Nat.reduceAdd, Nat.reduceLT, ↓us_sCallsIn, r_sCallsIn, hltI]
      exact ⟨hx0.trans hx, y, rfl, by rw [callsL, if_pos hT]; exact ho.mono hx0.size⟩
  · simp only [↓vsd, vsn, gW, qd, qv, ev, pick, argE, zipE, ne_eq, eq_self, forall_const, implies_true, if_true, if_false, reduceIte, reduceCtorEq, Nat.reduceEqDiff, Nat.reduceAdd, Nat.reduceLT, ↓us_sCallsIn, r_sCallsIn, hT]
    exact ⟨hx0, _, rfl, by rw [callsL, if_neg hT]; exact Own.nil fI_len⟩
end Go.Proofs.Ytpnopboffalfnaa
