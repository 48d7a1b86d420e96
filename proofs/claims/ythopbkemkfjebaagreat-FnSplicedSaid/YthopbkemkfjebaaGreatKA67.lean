/-
  The heads and the rows of a splice, of both sides.
  Conditions: none.
-/
import Derived.Test.YthopbkemkfjebaaGreatKA31
import Derived.Test.YthopbkemkfjebaaGreatKA34
import Derived.Test.YthopbkemkfjebaaGreatKA66
import Derived.Test.YthopbkemkfjebaaGreatKD3
set_option linter.unusedSimpArgs false
set_option linter.unusedVariables false
set_option linter.defProp false
namespace Go.Proofs.YthopbkemkfjebaaGreat
open Go Go.RowKit
section
variable (P : Program) (k : KT) (e : Env) (w : World)
abbrev b84_1 : X := (.reg [0, 2, 4, 7, 8, 19, 20] (.c (.q 41 [] (.mv (.t 8))) (.c (.q 42 [] (.mv (.t 7))) (.c (.e (some 43) [] (.bsl 9 1 [(.t 42)])) (.c (.e (some 44) [] (.app 23 9 1 16 [(S [])] 23 (.t 41) (.t 43))) (.c (.q 8 [] (.mv (.t 44))) .nil))))))
def t84_1 := b84_1
theorem u84_1 : vcK P t84_1 k e w = vcK P b84_1 k e w := rfl
abbrev b84_2 : X := (.seq (.drw [0, 2, 4, 7, 8, 19, 20] (.c (.q 23 [] (.mv (.t 7))) (.c (.q 24 [] (.mv (.t 0))) (.c (.q 25 [] (.mv (.t 2))) (.c (.q 26 [] (.mv (.t 9))) (.c (.q 30 [] (.lda 2 (.t 4))) (.c (.q 31 [] (.mv (.t 2))) (.c (.q 32 [] (.mv (.t 9))) (.c (.q 33 [] (.bin .mul (.c (.int .i64 2)) (.t 32))) (.c (.q 34 [] (.bin .add (.t 33) (.c (.int .i64 1)))) (.c (.q 35 [] (.mv (.t 9))) (.c (.q 36 [] (.bin .mul (.c (.int .i64 2)) (.t 35))) (.c (.q 37 [] (.bin .add (.t 36) (.c (.int .i64 2)))) (.c (.q 38 [] (.sub (.t 31) (some (.t 34)) (some (.t 37)))) (.c (.e (some 27) [] (.call false 79 [(.t 25), (.t 26)])) (.c (.q 28 [] (.ia 3 (.t 24) (.t 27))) (.c (.q 29 [] (.lda 3 (.t 28))) (.c (.e (some 39) [] (.call false 132 [(.t 29), (.t 30), (.t 38)])) (.c (.e (some 40) [] (.call false 87 [(.t 23), (.t 39)])) (.c (.q 7 [] (.mv (.t 40))) .nil)))))))))))))))))))) t84_1)
def t84_2 := b84_2
theorem u84_2 : vcK P t84_2 k e w = vcK P b84_2 k e w := rfl
abbrev b84_3 : X := (.reg [0, 2, 4, 7, 8, 19, 20] (.c (.q 45 [] (.bin .add (.t 20) (.c (.int .i64 1)))) (.c (.q 20 [] (.mv (.t 45))) .nil)))
def t84_3 := b84_3
theorem u84_3 : vcK P t84_3 k e w = vcK P b84_3 k e w := rfl
abbrev b84_4 : X := (.seq (.blk 1 (.seq (.reg [0, 2, 4, 7, 8, 9, 19, 20] (.c (.q 22 [] (.mv (.t 20))) (.c (.q 9 [] (.mv (.t 22))) .nil))) t84_2)) t84_3)
def t84_4 := b84_4
theorem u84_4 : vcK P t84_4 k e w = vcK P b84_4 k e w := rfl
abbrev b84_5 : X := (.seq (.cond (.t 21) .skip (.exit 0)) t84_4)
def t84_5 := b84_5
theorem u84_5 : vcK P t84_5 k e w = vcK P b84_5 k e w := rfl
abbrev b84_6 : X := (.seq (.reg [0, 2, 4, 7, 8, 19, 20, 21] (.c (.q 21 [] (.bin .lss (.t 20) (.t 19))) .nil)) t84_5)
def t84_6 := b84_6
theorem u84_6 : vcK P t84_6 k e w = vcK P b84_6 k e w := rfl
abbrev b84_7 : X := (.blk 0 (.loop [7, 8, 20] [0, 2, 4, 19] t84_6))
def t84_7 := b84_7
theorem u84_7 : vcK P t84_7 k e w = vcK P b84_7 k e w := rfl
abbrev b84_8 : X := (.seq (.reg [6] (.c (.q 46 [] (.mv (.t 8))) (.c (.q 6 [] (.mv (.t 46))) .nil))) .ret)
def t84_8 := b84_8
theorem u84_8 : vcK P t84_8 k e w = vcK P b84_8 k e w := rfl
abbrev b84_9 : X := (.seq (.seq (.reg [0, 2, 4, 7, 8, 19, 20] (.c (.q 17 [] (.mv (.t 2))) (.c (.q 18 [] (.len (.t 17))) (.c (.q 19 [] (.bin .quo (.t 18) (.c (.int .i64 2)))) (.c (.q 20 [] (.mv (.c (.int .i64 0)))) .nil))))) t84_7) t84_8)
def t84_9 := b84_9
theorem u84_9 : vcK P t84_9 k e w = vcK P b84_9 k e w := rfl
abbrev b84_10 : X := (.seq (.reg [0, 2, 4, 7, 8] (.c (.q 15 [] (.mv (.t 7))) (.c (.e (some 16) [] (.bsl 9 1 [(.t 15)])) (.c (.q 8 [] (.mv (.t 16))) .nil)))) t84_9)
def t84_10 := b84_10
theorem u84_10 : vcK P t84_10 k e w = vcK P b84_10 k e w := rfl
abbrev b84_11 : X := (.seq (.reg [0, 2, 4, 7] (.c (.q 10 [] (.mv (.t 0))) (.c (.q 11 [] (.ia 3 (.t 10) (.c (.int .i64 0)))) (.c (.q 12 [] (.fa 1 (.t 11))) (.c (.q 13 [] (.ld (.t 12))) (.c (.e (some 14) [] (.call false 131 [(.t 13)])) (.c (.q 7 [] (.mv (.t 14))) .nil))))))) t84_10)
def t84_11 := b84_11
theorem u84_11 : vcK P t84_11 k e w = vcK P b84_11 k e w := rfl
abbrev b84_0 : X := (.seq (.reg [0, 2, 4] (.c (.e (some 4) [] (.box 27 (.t 1))) (.c (.q 6 [] (.mv (.c (.slice none 0 0)))) .nil))) t84_11)
def x_ispliceHeads := b84_0
theorem u84_0 : vcK P x_ispliceHeads k e w = vcK P b84_0 k e w := rfl
def r_ispliceHeads : List XO := [(.mv (.t 6))]
theorem c_ispliceHeads : convF Tryz.prog [56, 58, 59, 60, 61, 62, 72, 73, 77, 97, 98, 109, 110, 111, 112, 115, 128, 136] Tryz.f84 [([0, 2, 4], []), ([0, 2, 4, 7], []), ([0, 2, 4, 7, 8], []), ([0, 2, 4, 7, 8, 19, 20], []), ([7, 8, 20], [0, 2, 4, 19]), ([0, 2, 4, 7, 8, 19, 20, 21], []), ([0, 2, 4, 7, 8, 9, 19, 20], []), ([0, 2, 4, 7, 8, 19, 20], []), ([0, 2, 4, 7, 8, 19, 20], []), ([0, 2, 4, 7, 8, 19, 20], []), ([6], [])] = some (x_ispliceHeads, r_ispliceHeads) := by kernel_rfl
def us_ispliceHeads :=  (aI (aI (aI @u84_0 (aI @u84_1 @u84_2)) (aI @u84_3 (aI @u84_4 @u84_5))) (aI (aI @u84_6 (aI @u84_7 @u84_8)) (aI @u84_9 (aI @u84_10 @u84_11))))
abbrev b91_1 : X := (.cond (.t 20) .skip (.exit 0))
def t91_1 := b91_1
theorem u91_1 : vcK P t91_1 k e w = vcK P b91_1 k e w := rfl
abbrev b91_2 : X := (.reg [0, 2, 4, 7, 8, 9] (.c (.q 41 [] (.mv (.t 8))) (.c (.q 42 [] (.mv (.t 7))) (.c (.e (some 43) [] (.bsl 9 1 [(.t 42)])) (.c (.e (some 44) [] (.app 23 9 1 16 [(S [])] 23 (.t 41) (.t 43))) (.c (.q 8 [] (.mv (.t 44))) .nil))))))
def t91_2 := b91_2
theorem u91_2 : vcK P t91_2 k e w = vcK P b91_2 k e w := rfl
abbrev b91_3 : X := (.reg [0, 2, 4, 7, 8, 9] (.c (.q 21 [] (.mv (.t 9))) (.c (.q 22 [] (.bin .add (.t 21) (.c (.int .i64 2)))) (.c (.q 9 [] (.mv (.t 22))) .nil))))
def t91_3 := b91_3
theorem u91_3 : vcK P t91_3 k e w = vcK P b91_3 k e w := rfl
abbrev b91_4 : X := (.seq (.blk 1 (.seq (.drw [0, 2, 4, 7, 8, 9] (.c (.q 23 [] (.mv (.t 7))) (.c (.q 24 [] (.mv (.t 0))) (.c (.q 25 [] (.mv (.t 2))) (.c (.q 26 [] (.mv (.t 9))) (.c (.q 27 [] (.idx (.t 25) (.t 26))) (.c (.q 28 [] (.cvi .i64 (.t 27))) (.c (.q 29 [] (.bin .sub (.t 28) (.c (.int .i64 65)))) (.c (.q 30 [] (.ia 3 (.t 24) (.t 29))) (.c (.q 31 [] (.lda 3 (.t 30))) (.c (.q 32 [] (.lda 2 (.t 4))) (.c (.q 33 [] (.mv (.t 2))) (.c (.q 34 [] (.mv (.t 9))) (.c (.q 35 [] (.bin .add (.t 34) (.c (.int .i64 1)))) (.c (.q 36 [] (.mv (.t 9))) (.c (.q 37 [] (.bin .add (.t 36) (.c (.int .i64 2)))) (.c (.q 38 [] (.sub (.t 33) (some (.t 35)) (some (.t 37)))) (.c (.e (some 39) [] (.call false 108 [(.t 31), (.t 32), (.t 38)])) (.c (.e (some 40) [] (.call false 93 [(.t 23), (.t 39)])) (.c (.q 7 [] (.mv (.t 40))) .nil)))))))))))))))))))) t91_2)) t91_3)
def t91_4 := b91_4
theorem u91_4 : vcK P t91_4 k e w = vcK P b91_4 k e w := rfl
abbrev b91_5 : X := (.seq (.seq (.reg [0, 2, 4, 7, 8, 9, 20] (.c (.q 17 [] (.mv (.t 9))) (.c (.q 18 [] (.mv (.t 2))) (.c (.q 19 [] (.len (.t 18))) (.c (.q 20 [] (.bin .lss (.t 17) (.t 19))) .nil))))) t91_1) t91_4)
def t91_5 := b91_5
theorem u91_5 : vcK P t91_5 k e w = vcK P b91_5 k e w := rfl
abbrev b91_6 : X := (.blk 0 (.loop [7, 8, 9] [0, 2, 4] t91_5))
def t91_6 := b91_6
theorem u91_6 : vcK P t91_6 k e w = vcK P b91_6 k e w := rfl
abbrev b91_7 : X := (.seq (.reg [6] (.c (.q 45 [] (.mv (.t 8))) (.c (.q 6 [] (.mv (.t 45))) .nil))) .ret)
def t91_7 := b91_7
theorem u91_7 : vcK P t91_7 k e w = vcK P b91_7 k e w := rfl
abbrev b91_8 : X := (.seq (.seq (.reg [0, 2, 4, 7, 8, 9] (.c (.q 9 [] (.mv (.c (.int .i64 0)))) .nil)) t91_6) t91_7)
def t91_8 := b91_8
theorem u91_8 : vcK P t91_8 k e w = vcK P b91_8 k e w := rfl
abbrev b91_9 : X := (.seq (.reg [0, 2, 4, 7, 8] (.c (.q 15 [] (.mv (.t 7))) (.c (.e (some 16) [] (.bsl 9 1 [(.t 15)])) (.c (.q 8 [] (.mv (.t 16))) .nil)))) t91_8)
def t91_9 := b91_9
theorem u91_9 : vcK P t91_9 k e w = vcK P b91_9 k e w := rfl
abbrev b91_10 : X := (.seq (.reg [0, 2, 4, 7] (.c (.q 10 [] (.mv (.t 0))) (.c (.q 11 [] (.ia 3 (.t 10) (.c (.int .i64 0)))) (.c (.q 12 [] (.fa 1 (.t 11))) (.c (.q 13 [] (.ld (.t 12))) (.c (.e (some 14) [] (.call false 70 [(.t 13)])) (.c (.q 7 [] (.mv (.t 14))) .nil))))))) t91_9)
def t91_10 := b91_10
theorem u91_10 : vcK P t91_10 k e w = vcK P b91_10 k e w := rfl
abbrev b91_0 : X := (.seq (.reg [0, 2, 4] (.c (.e (some 4) [] (.box 27 (.t 1))) (.c (.q 6 [] (.mv (.c (.slice none 0 0)))) .nil))) t91_10)
def x_sl14Heads := b91_0
theorem u91_0 : vcK P x_sl14Heads k e w = vcK P b91_0 k e w := rfl
def r_sl14Heads : List XO := [(.mv (.t 6))]
theorem c_sl14Heads : convF Tryz.prog [56, 58, 59, 60, 61, 62, 72, 73, 77, 97, 98, 109, 110, 111, 112, 115, 128, 136] Tryz.f91 [([0, 2, 4], []), ([0, 2, 4, 7], []), ([0, 2, 4, 7, 8], []), ([0, 2, 4, 7, 8, 9], []), ([7, 8, 9], [0, 2, 4]), ([0, 2, 4, 7, 8, 9, 20], []), ([0, 2, 4, 7, 8, 9], []), ([0, 2, 4, 7, 8, 9], []), ([0, 2, 4, 7, 8, 9], []), ([6], [])] = some (x_sl14Heads, r_sl14Heads) := by kernel_rfl
def us_sl14Heads :=  (aI (aI (aI @u91_0 @u91_1) (aI @u91_2 (aI @u91_3 @u91_4))) (aI (aI @u91_5 (aI @u91_6 @u91_7)) (aI @u91_8 (aI @u91_9 @u91_10))))
abbrev b96_1 : X := (.cond (.t 17) .skip (.exit 0))
def t96_1 := b96_1
theorem u96_1 : vcK P t96_1 k e w = vcK P b96_1 k e w := rfl
abbrev b96_2 : X := (.reg [0, 2, 7, 8, 9] (.c (.q 18 [] (.mv (.t 9))) (.c (.q 19 [] (.bin .add (.t 18) (.c (.int .i64 2)))) (.c (.q 9 [] (.mv (.t 19))) .nil))))
def t96_2 := b96_2
theorem u96_2 : vcK P t96_2 k e w = vcK P b96_2 k e w := rfl
abbrev b96_3 : X := (.seq (.blk 1 (.drw [0, 2, 7, 8, 9] (.c (.q 20 [] (.mv (.t 8))) (.c (.q 21 [] (.mv (.t 0))) (.c (.q 22 [] (.mv (.t 2))) (.c (.q 23 [] (.mv (.t 9))) (.c (.q 24 [] (.idx (.t 22) (.t 23))) (.c (.q 25 [] (.cvi .i64 (.t 24))) (.c (.q 26 [] (.bin .sub (.t 25) (.c (.int .i64 65)))) (.c (.q 27 [] (.ia 3 (.t 21) (.t 26))) (.c (.q 28 [] (.lda 3 (.t 27))) (.c (.q 29 [] (.mv (.t 7))) (.c (.q 30 [] (.mv (.t 9))) (.c (.q 31 [] (.bin .quo (.t 30) (.c (.int .i64 2)))) (.c (.q 32 [] (.ia 1 (.t 29) (.t 31))) (.c (.q 33 [] (.ld (.t 32))) (.c (.e (some 34) [] (.call false 69 [(.t 28), (.t 33)])) (.c (.e (some 35) [] (.app 23 9 1 16 [(S [])] 23 (.t 20) (.t 34))) (.c (.q 8 [] (.mv (.t 35))) .nil))))))))))))))))))) t96_2)
def t96_3 := b96_3
theorem u96_3 : vcK P t96_3 k e w = vcK P b96_3 k e w := rfl
abbrev b96_4 : X := (.seq (.seq (.reg [0, 2, 7, 8, 9, 17] (.c (.q 14 [] (.mv (.t 9))) (.c (.q 15 [] (.mv (.t 2))) (.c (.q 16 [] (.len (.t 15))) (.c (.q 17 [] (.bin .lss (.t 14) (.t 16))) .nil))))) t96_1) t96_3)
def t96_4 := b96_4
theorem u96_4 : vcK P t96_4 k e w = vcK P b96_4 k e w := rfl
abbrev b96_5 : X := (.blk 0 (.loop [8, 9] [0, 2, 7] t96_4))
def t96_5 := b96_5
theorem u96_5 : vcK P t96_5 k e w = vcK P b96_5 k e w := rfl
abbrev b96_6 : X := (.seq (.reg [6] (.c (.q 36 [] (.mv (.t 8))) (.c (.q 6 [] (.mv (.t 36))) .nil))) .ret)
def t96_6 := b96_6
theorem u96_6 : vcK P t96_6 k e w = vcK P b96_6 k e w := rfl
abbrev b96_7 : X := (.seq (.seq (.reg [0, 2, 7, 8, 9] (.c (.q 9 [] (.mv (.c (.int .i64 0)))) .nil)) t96_5) t96_6)
def t96_7 := b96_7
theorem u96_7 : vcK P t96_7 k e w = vcK P b96_7 k e w := rfl
abbrev b96_8 : X := (.seq (.reg [0, 2, 7, 8] (.c (.q 8 [] (.mv (.c (.slice none 0 0)))) .nil)) t96_7)
def t96_8 := b96_8
theorem u96_8 : vcK P t96_8 k e w = vcK P b96_8 k e w := rfl
abbrev b96_9 : X := (.seq (.reg [0, 2, 7] (.c (.q 10 [] (.mv (.t 0))) (.c (.q 11 [] (.lda 2 (.t 4))) (.c (.q 12 [] (.mv (.t 2))) (.c (.e (some 13) [] (.call false 91 [(.t 10), (.t 11), (.t 12)])) (.c (.q 7 [] (.mv (.t 13))) .nil)))))) t96_8)
def t96_9 := b96_9
theorem u96_9 : vcK P t96_9 k e w = vcK P b96_9 k e w := rfl
abbrev b96_0 : X := (.seq (.reg [0, 2, 4] (.c (.e (some 4) [] (.box 27 (.t 1))) (.c (.q 6 [] (.mv (.c (.slice none 0 0)))) .nil))) t96_9)
def x_sl14Rows := b96_0
theorem u96_0 : vcK P x_sl14Rows k e w = vcK P b96_0 k e w := rfl
def r_sl14Rows : List XO := [(.mv (.t 6))]
theorem c_sl14Rows : convF Tryz.prog [56, 58, 59, 60, 61, 62, 72, 73, 77, 97, 98, 109, 110, 111, 112, 115, 128, 136] Tryz.f96 [([0, 2, 4], []), ([0, 2, 7], []), ([0, 2, 7, 8], []), ([0, 2, 7, 8, 9], []), ([8, 9], [0, 2, 7]), ([0, 2, 7, 8, 9, 17], []), ([0, 2, 7, 8, 9], []), ([0, 2, 7, 8, 9], []), ([6], [])] = some (x_sl14Rows, r_sl14Rows) := by kernel_rfl
def us_sl14Rows :=  (aI (aI (aI @u96_0 @u96_1) (aI @u96_2 (aI @u96_3 @u96_4))) (aI (aI @u96_5 @u96_6) (aI @u96_7 (aI @u96_8 @u96_9))))
abbrev b37_1 : X := (.cond (.t 15) (.seq (.reg [6, 7] (.c (.q 6 [] (.mv (.c (.slice none 0 0)))) (.c (.q 7 [] (.mv (.c (.bool false)))) .nil))) .ret) .skip)
def t37_1 := b37_1
theorem u37_1 : vcK P t37_1 k e w = vcK P b37_1 k e w := rfl
abbrev b37_2 : X := (.cond (.t 42) (.seq (.reg [6, 7] (.c (.q 6 [] (.mv (.c (.slice none 0 0)))) (.c (.q 7 [] (.mv (.c (.bool false)))) .nil))) .ret) .skip)
def t37_2 := b37_2
theorem u37_2 : vcK P t37_2 k e w = vcK P b37_2 k e w := rfl
abbrev b37_3 : X := (.seq (.reg [0, 2, 8, 9, 23, 24, 42] (.c (.q 40 [] (.mv (.t 9))) (.c (.q 41 [] (.lens (.t 40))) (.c (.q 42 [] (.bin .gtr (.t 41) (.c (.int .i64 800)))) .nil)))) t37_2)
def t37_3 := b37_3
theorem u37_3 : vcK P t37_3 k e w = vcK P b37_3 k e w := rfl
abbrev b37_4 : X := (.seq (.drw [0, 2, 8, 9, 23, 24] (.c (.q 27 [] (.mv (.t 9))) (.c (.q 28 [] (.mv (.t 0))) (.c (.q 29 [] (.mv (.t 2))) (.c (.q 30 [] (.mv (.t 10))) (.c (.q 34 [] (.mv (.t 8))) (.c (.q 35 [] (.mv (.t 10))) (.c (.q 36 [] (.ia 1 (.t 34) (.t 35))) (.c (.q 37 [] (.ld (.t 36))) (.c (.e (some 31) [] (.call false 79 [(.t 29), (.t 30)])) (.c (.q 32 [] (.ia 3 (.t 28) (.t 31))) (.c (.q 33 [] (.lda 3 (.t 32))) (.c (.e (some 38) [] (.call false 95 [(.t 33), (.t 37)])) (.c (.e (some 39) [] (.app 23 9 1 16 [(S [])] 23 (.t 27) (.t 38))) (.c (.q 9 [] (.mv (.t 39))) .nil))))))))))))))) t37_3)
def t37_4 := b37_4
theorem u37_4 : vcK P t37_4 k e w = vcK P b37_4 k e w := rfl
abbrev b37_5 : X := (.reg [0, 2, 8, 9, 23, 24] (.c (.q 43 [] (.bin .add (.t 24) (.c (.int .i64 1)))) (.c (.q 24 [] (.mv (.t 43))) .nil)))
def t37_5 := b37_5
theorem u37_5 : vcK P t37_5 k e w = vcK P b37_5 k e w := rfl
abbrev b37_6 : X := (.seq (.blk 1 (.seq (.reg [0, 2, 8, 9, 10, 23, 24] (.c (.q 26 [] (.mv (.t 24))) (.c (.q 10 [] (.mv (.t 26))) .nil))) t37_4)) t37_5)
def t37_6 := b37_6
theorem u37_6 : vcK P t37_6 k e w = vcK P b37_6 k e w := rfl
abbrev b37_7 : X := (.seq (.cond (.t 25) .skip (.exit 0)) t37_6)
def t37_7 := b37_7
theorem u37_7 : vcK P t37_7 k e w = vcK P b37_7 k e w := rfl
abbrev b37_8 : X := (.seq (.reg [0, 2, 8, 9, 23, 24, 25] (.c (.q 25 [] (.bin .lss (.t 24) (.t 23))) .nil)) t37_7)
def t37_8 := b37_8
theorem u37_8 : vcK P t37_8 k e w = vcK P b37_8 k e w := rfl
abbrev b37_9 : X := (.blk 0 (.loop [9, 24] [0, 2, 8, 23] t37_8))
def t37_9 := b37_9
theorem u37_9 : vcK P t37_9 k e w = vcK P b37_9 k e w := rfl
abbrev b37_10 : X := (.seq (.reg [6, 7] (.c (.q 44 [] (.mv (.t 9))) (.c (.q 6 [] (.mv (.t 44))) (.c (.q 7 [] (.mv (.c (.bool true)))) .nil)))) .ret)
def t37_10 := b37_10
theorem u37_10 : vcK P t37_10 k e w = vcK P b37_10 k e w := rfl
abbrev b37_11 : X := (.seq (.seq (.reg [0, 2, 8, 9, 23, 24] (.c (.q 21 [] (.mv (.t 2))) (.c (.q 22 [] (.len (.t 21))) (.c (.q 23 [] (.bin .quo (.t 22) (.c (.int .i64 2)))) (.c (.q 24 [] (.mv (.c (.int .i64 0)))) .nil))))) t37_9) t37_10)
def t37_11 := b37_11
theorem u37_11 : vcK P t37_11 k e w = vcK P b37_11 k e w := rfl
abbrev b37_12 : X := (.seq (.reg [0, 2, 8, 9] (.c (.e (some 20) [] (.bsl 9 1 [])) (.c (.q 9 [] (.mv (.t 20))) .nil))) t37_11)
def t37_12 := b37_12
theorem u37_12 : vcK P t37_12 k e w = vcK P b37_12 k e w := rfl
abbrev b37_13 : X := (.seq (.reg [0, 2, 8] (.c (.q 16 [] (.mv (.t 0))) (.c (.q 17 [] (.lda 2 (.t 4))) (.c (.q 18 [] (.mv (.t 2))) (.c (.e (some 19) [] (.call false 84 [(.t 16), (.t 17), (.t 18)])) (.c (.q 8 [] (.mv (.t 19))) .nil)))))) t37_12)
def t37_13 := b37_13
theorem u37_13 : vcK P t37_13 k e w = vcK P b37_13 k e w := rfl
abbrev b37_14 : X := (.seq (.seq (.reg [0, 2, 4, 15] (.c (.q 11 [] (.mv (.t 0))) (.c (.q 12 [] (.lda 2 (.t 4))) (.c (.q 13 [] (.mv (.t 2))) (.c (.e (some 14) [] (.call false 83 [(.t 11), (.t 12), (.t 13)])) (.c (.q 15 [] (.not (.t 14))) .nil)))))) t37_1) t37_13)
def t37_14 := b37_14
theorem u37_14 : vcK P t37_14 k e w = vcK P b37_14 k e w := rfl
abbrev b37_0 : X := (.seq (.reg [0, 2, 4] (.c (.e (some 4) [] (.box 27 (.t 1))) (.c (.q 6 [] (.mv (.c (.slice none 0 0)))) (.c (.q 7 [] (.mv (.c (.bool false)))) .nil)))) t37_14)
def x_iSpliceRows := b37_0
theorem u37_0 : vcK P x_iSpliceRows k e w = vcK P b37_0 k e w := rfl
def r_iSpliceRows : List XO := [(.mv (.t 6)), (.mv (.t 7))]
theorem c_iSpliceRows : convF Tryz.prog [56, 58, 59, 60, 61, 62, 72, 73, 77, 97, 98, 109, 110, 111, 112, 115, 128, 136] Tryz.f37 [([0, 2, 4], []), ([0, 2, 4, 15], []), ([6, 7], []), ([0, 2, 8], []), ([0, 2, 8, 9], []), ([0, 2, 8, 9, 23, 24], []), ([9, 24], [0, 2, 8, 23]), ([0, 2, 8, 9, 23, 24, 25], []), ([0, 2, 8, 9, 10, 23, 24], []), ([0, 2, 8, 9, 23, 24], []), ([0, 2, 8, 9, 23, 24, 42], []), ([6, 7], []), ([0, 2, 8, 9, 23, 24], []), ([6, 7], [])] = some (x_iSpliceRows, r_iSpliceRows) := by kernel_rfl
def us_iSpliceRows :=  (aI (aI (aI @u37_0 (aI @u37_1 @u37_2)) (aI (aI @u37_3 @u37_4) (aI @u37_5 @u37_6))) (aI (aI (aI @u37_7 @u37_8) (aI @u37_9 @u37_10)) (aI (aI @u37_11 @u37_12) (aI @u37_13 @u37_14))))
abbrev b38_1 : X := (.cond (.t 20) (.seq (.reg [6, 7] (.c (.q 6 [] (.mv (.c (.slice none 0 0)))) (.c (.q 7 [] (.mv (.c (.bool false)))) .nil))) .ret) .skip)
def t38_1 := b38_1
theorem u38_1 : vcK P t38_1 k e w = vcK P b38_1 k e w := rfl
abbrev b38_2 : X := (.seq (.reg [6, 7] (.c (.q 21 [] (.mv (.t 0))) (.c (.q 22 [] (.lda 2 (.t 4))) (.c (.q 23 [] (.mv (.t 2))) (.c (.e (some 24) [] (.call false 96 [(.t 21), (.t 22), (.t 23)])) (.c (.q 6 [] (.mv (.t 24))) (.c (.q 7 [] (.mv (.c (.bool true)))) .nil))))))) .ret)
def t38_2 := b38_2
theorem u38_2 : vcK P t38_2 k e w = vcK P b38_2 k e w := rfl
abbrev b38_3 : X := (.seq (.seq (.reg [0, 2, 4, 20] (.c (.q 8 [] (.mv (.t 0))) (.c (.q 9 [] (.lda 2 (.t 4))) (.c (.q 10 [] (.mv (.t 2))) (.c (.e (some 11) [] (.call false 90 [(.t 8), (.t 9), (.t 10)])) (.c (.q 12 [] (.not (.t 11))) (.c (.q 13 [] (.mv (.t 12))) (.c (.q 14 [(13, false)] (.mv (.t 0))) (.c (.q 15 [(13, false)] (.lda 2 (.t 4))) (.c (.q 16 [(13, false)] (.mv (.t 2))) (.c (.e (some 17) [(13, false)] (.call false 96 [(.t 14), (.t 15), (.t 16)])) (.c (.q 18 [(13, false)] (.lens (.t 17))) (.c (.q 19 [(13, false)] (.bin .gtr (.t 18) (.c (.int .i64 800)))) (.c (.q 20 [] (.pick (.t 13) (.c (.bool true)) (.t 19))) .nil)))))))))))))) t38_1) t38_2)
def t38_3 := b38_3
theorem u38_3 : vcK P t38_3 k e w = vcK P b38_3 k e w := rfl
abbrev b38_0 : X := (.seq (.reg [0, 2, 4] (.c (.e (some 4) [] (.box 27 (.t 1))) (.c (.q 6 [] (.mv (.c (.slice none 0 0)))) (.c (.q 7 [] (.mv (.c (.bool false)))) .nil)))) t38_3)
def x_sSpliceRows := b38_0
theorem u38_0 : vcK P x_sSpliceRows k e w = vcK P b38_0 k e w := rfl
def r_sSpliceRows : List XO := [(.mv (.t 6)), (.mv (.t 7))]
theorem c_sSpliceRows : convF Tryz.prog [56, 58, 59, 60, 61, 62, 72, 73, 77, 97, 98, 109, 110, 111, 112, 115, 128, 136] Tryz.f38 [([0, 2, 4], []), ([0, 2, 4, 20], []), ([6, 7], []), ([6, 7], [])] = some (x_sSpliceRows, r_sSpliceRows) := by kernel_rfl
def us_sSpliceRows :=  (aI (aI @u38_0 @u38_1) (aI @u38_2 @u38_3))
end
section
variable (n : Nat) (css : List (List (List UInt8))) (b s t : List UInt8)
/-- The head behind i leads of a splice. -/
def hdS : Nat → List UInt8
  | 0 => roundsL n
  | i + 1 => timesL (hdS i) (headC n (css.getD (mA t i) []) b s [t.getD (2 * i + 1) 0])
def hdsS (k : Nat) : List (List UInt8) := (List.range k).map (hdS n css b s t)
def rwS (i : Nat) : List (List UInt8) := rowsU (hdS n css b s t i) (css.getD (mA t i) []) (css.getD (mA t i) []).length
def rwsS (k : Nat) : List (List UInt8) := (List.range k).flatMap (rwS n css b s t)
theorem hdsS_len (k : Nat) : (hdsS n css b s t k).length = k := by simp [hdsS]
theorem hdsS_get (k i : Nat) (h : i < k) : (hdsS n css b s t k).getD i [] = hdS n css b s t i := by
  unfold hdsS
  rw [List.getD_eq_getElem?_getD, List.getElem?_map, List.getElem?_range h]; rfl
theorem hdsS_succ (k : Nat) : hdsS n css b s t (k + 1) = hdsS n css b s t k ++ [hdS n css b s t k] := by simp [hdsS, List.range_succ]
theorem rwsS_succ (k : Nat) : rwsS n css b s t (k + 1) = rwsS n css b s t k ++ rwS n css b s t k := by simp [rwsS, List.range_succ]
theorem rwsS_mono (i k : Nat) (h : i ≤ k) : (rwsS n css b s t i).length ≤ (rwsS n css b s t k).length := by
  induction k with
  | zero => obtain rfl : i = 0 := by omega
            exact Nat.le_refl _
  | succ k ih =>
    by_cases he : i = k + 1
    · rw [he]; exact Nat.le_refl _
    · rw [rwsS_succ, List.length_append]
      have := ih (by omega)
      omega
end
/-- What a valid splice says of lead i. -/
theorem spl_at {ms : List MS} {css : List (List (List UInt8))} {b s t : List UInt8} {n : Nat} (h : SplOk ms css b s t) (hn : (ms.getD 0 MS.nil).st = n) {i : Nat} (hi : i < t.length / 2) : mA t i < ms.length ∧ (ms.getD (mA t i) MS.nil).st = n ∧ IsMC (ms.getD (mA t i) MS.nil).nm n (css.getD (mA t i) []) b s ∧ IsCall [t.getD (2 * i + 1) 0] := by
  obtain ⟨_, h2, h3, _⟩ := mA_lt h.2 hi
  obtain ⟨g1, g2⟩ := h.1.2.1 _ h2
  have g3 := h.1.2.2
  rw [hn] at g2 g3
  rw [g2] at g1
  exact ⟨h2, g2, ⟨g1, g3.2⟩, h3⟩
theorem spl_st {ms : List MS} {css : List (List (List UInt8))} {b s t : List UInt8} (h : SplOk ms css b s t) : ∃ n : Nat, (ms.getD 0 MS.nil).st = n ∧ 3 ≤ n ∧ n ≤ 8 := by
  have := h.1.2.2.1.2.1
  exact ⟨(ms.getD 0 MS.nil).st.toNat, by omega, by omega, by omega⟩
theorem hdS_row {ms : List MS} {css : List (List (List UInt8))} {b s t : List UInt8} {n : Nat} (h : SplOk ms css b s t) (hn : (ms.getD 0 MS.nil).st = n) (h8 : 3 ≤ n ∧ n ≤ 8) : ∀ i, i ≤ t.length / 2 → IsRow (hdS n css b s t i) ∧ (hdS n css b s t i).length = n
  | 0 => fun _ => ⟨roundsL_row n h8, roundsL_len n⟩
  | i + 1 => fun hi => by
    obtain ⟨_, _, hM, _⟩ := spl_at h hn (show i < t.length / 2 by omega)
    have hr := hdS_row h hn h8 i (by omega)
    have hc := headC_row hM [t.getD (2 * i + 1) 0]
    exact ⟨timesL_row hr.1 hc.1 (by rw [hr.2, hc.2]), by unfold hdS; rw [timesL_len, hc.2]⟩
theorem rwS_len {ms : List MS} {css : List (List (List UInt8))} {b s t : List UInt8} {n : Nat} (h : SplOk ms css b s t) (hn : (ms.getD 0 MS.nil).st = n) : ∀ k, k ≤ t.length / 2 → (rwsS n css b s t k).length ≤ 40 * k
  | 0 => fun _ => by simp [rwsS]
  | k + 1 => fun hk => by
    obtain ⟨_, _, hM, _⟩ := spl_at h hn (show k < t.length / 2 by omega)
    have := rwS_len h hn k (by omega)
    have h40 := hM.1.2.2.1.2
    rw [rwsS_succ, List.length_append]
    unfold rwS
    rw [rowsU_len]
    omega
theorem SqM.at {w : World} {v : Value} {ms : List MS} {css : List (List (List UInt8))} (h : SqM w v ms css) {a n : Nat} (ha : a < ms.length) (hst : (ms.getD a MS.nil).st = n) : ∀ k : IntKind, ldaV w 3 (iaV 3 v (.int k (a : Nat))) = mV (ms.getD a MS.nil).nm n (ms.getD a MS.nil).sv.v ∧ ldaD w 3 (iaV 3 v (.int k (a : Nat))) = True := fun k => by
  have := h.1.ata MS.nil ha k
  rw [← hst]
  exact this
theorem ispliceHeads_ok (v : Value) (ms : List MS) (css : List (List (List UInt8))) (b s t : List UInt8) (n : Nat) (hS : SplOk ms css b s t) (hn : (ms.getD 0 MS.nil).st = n) (h8 : 3 ≤ n ∧ n ≤ 8) (w : World) (h : SqM w v ms css) : Fn 84 [v, kV b s, S t] w (fun r w' => Own fS 1 9 w.heap.size w' r (hdsS n css b s t (t.length / 2 + 1))) := by
  (refine callsV_of mix Tryz.func84 c_ispliceHeads ?_; simp only [↓vsd, vsn, gW, qd, qv, ev, pick, argE, zipE, ne_eq, eq_self, forall_const, implies_true, if_true, if_false, reduceIte, reduceCtorEq, Nat.reduceEqDiff, Nat.reduceAdd, Nat.reduceLT, ↓us_ispliceHeads, r_ispliceHeads])
  refine m_al ?_
  rintro b1 w1 hb1 hblk1 hx1 hs1
  have h1 : Blk w1 b1 (fQ b s) 27 := hblk1
  have hq1 := h.ext hx1
  have hz : 0 < ms.length := by have := hS.1.1; omega
  have z1 := hq1.st0 hz
  rw [hn] at z1
  have p1 := hq1.p0 hz
  have htl := hS.2.2.1
  simp only [↓vsd, vsn, gW, qd, qv, ev, pick, argE, zipE, ne_eq, eq_self, forall_const, implies_true, if_true, if_false, reduceIte, reduceCtorEq, Nat.reduceEqDiff, Nat.reduceAdd, Nat.reduceLT, ↓us_ispliceHeads, r_ispliceHeads, hq1.1.facts, z1, p1]
  refine ⟨by omega, m_call (irounds_ok n (by omega) _) ?_⟩
  rintro _ w2 hx2 rfl
  have hx2 : Ext w1 w2 := by first | exact hx2 | exact ud hx2 | exact ud (ud hx2)
  simp only [↓vsd, vsn, gW, qd, qv, ev, pick, argE, zipE, ne_eq, eq_self, forall_const, implies_true, if_true, if_false, reduceIte, reduceCtorEq, Nat.reduceEqDiff, Nat.reduceAdd, Nat.reduceLT, ↓us_ispliceHeads, r_ispliceHeads]
  refine m_bsl (one_el rfl) ?_
  rintro b3 w3 hb3 hblk3 hx3 hs3
  have hx3 : Ext w2 w3 := by first | exact hx3 | exact ud hx3 | exact ud (ud hx3)
  have hx13 := hx2.trans hx3
  have hd2 : ((t.length : Nat) : Int).tdiv 2 = ((t.length / 2 : Nat) : Int) := rfl
  simp only [↓vsd, vsn, gW, qd, qv, ev, pick, argE, zipE, ne_eq, eq_self, forall_const, implies_true, if_true, if_false, reduceIte, reduceCtorEq, Nat.reduceEqDiff, Nat.reduceAdd, Nat.reduceLT, ↓us_ispliceHeads, r_ispliceHeads, hd2]
  refine ⟨⟨by decide, inR_i64 (by omega)⟩, ?_⟩
  refine m_upto (t.length / 2) (fun i vs w' => ∃ x, vs = [S (hdS n css b s t i), x, .int .i64 i] ∧ Own fS 1 9 w1.heap.size w' x (hdsS n css b s t (i + 1)) ∧ Ext w1 w') ⟨_, rfl, (Own.one fS_len hblk3 rfl (by have := hx2.size; omega)).to rfl, hx13⟩ ?_
  rintro i vs w4 hi ⟨x, rfl, ho4, hx4⟩
  have hq4 := hq1.ext hx4
  have h14 := h1.ext hx4
  have hx04 := hx1.trans hx4
  by_cases hlt : i < t.length / 2
  · have hltI : (i : Int) < ((t.length / 2 : Nat) : Int) := by omega
    have hltJ : ¬ ((t.length / 2 : Nat) : Int) ≤ i := by omega
    obtain ⟨ha, hst, hM, hcall⟩ := spl_at hS hn hlt
    have hr := hdS_row hS hn h8 i (by omega)
    have hc := headC_row hM [t.getD (2 * i + 1) 0]
    have e2 : (2 : Int) * (i : Int) = ((2 * i : Nat) : Int) := by omega
    have e3 : ((2 * i : Nat) : Int) + 1 = ((2 * i + 1 : Nat) : Int) := by omega
    have e4 : ((2 * i : Nat) : Int) + 2 = ((2 * i + 2 : Nat) : Int) := by omega
    have hs1 : (t.take (2 * i + 2)).drop (2 * i + 1) = [t.getD (2 * i + 1) 0] := sub_one t (2 * i + 1) (by omega)
    have hxd : Ext w4 w4.drew := dr (Ext.refl _)
    have q4d := (hq4.ext hxd).at ha hst
    have hq4f := hq4.1.facts
    have h14d := h14.ext hxd
    simp only [↓vsd, vsn, gW, qd, qv, ev, pick, argE, zipE, ne_eq, eq_self, forall_const, implies_true, if_true, if_false, reduceIte, reduceCtorEq, Nat.reduceEqDiff, Nat.reduceAdd, Nat.reduceLT, ↓us_ispliceHeads, r_ispliceHeads, hltI, hltJ, e2, e3, e4, hs1, h14d.facts, fQg]
    refine ⟨inR_i64 (by omega), inR_i64 (by omega), inR_i64 (by omega), inR_i64 (by omega), by omega, ?_⟩
    refine m_call (imethodAt_ok ms.length t i hS.2 hlt _) ?_
    rintro _ w5 hx5 rfl
    have hx5 : Ext w4 w5 := by first | exact hx5 | exact ud hx5 | exact ud (ud hx5)
    simp only [↓vsd, vsn, gW, qd, qv, ev, pick, argE, zipE, ne_eq, eq_self, forall_const, implies_true, if_true, if_false, reduceIte, reduceCtorEq, Nat.reduceEqDiff, Nat.reduceAdd, Nat.reduceLT, ↓us_ispliceHeads, r_ispliceHeads, hq4f, q4d]
    refine ⟨by omega, m_call (icallHead_ok _ n _ (css.getD (mA t i) []) b s _ hM _ (by first | exact (hq4.2.2 _ ha).ext hx5 | exact (hq4.2.2 _ ha).ext (dr hx5))) ?_⟩
    rintro _ w6 hx6 rfl
    have hx6 : Ext w5 w6 := by first | exact hx6 | exact ud hx6 | exact ud (ud hx6)
    simp only [↓vsd, vsn, gW, qd, qv, ev, pick, argE, zipE, ne_eq, eq_self, forall_const, implies_true, if_true, if_false, reduceIte, reduceCtorEq, Nat.reduceEqDiff, Nat.reduceAdd, Nat.reduceLT, ↓us_ispliceHeads, r_ispliceHeads]
    refine m_call (itimes_ok _ _ hc.1 (by rw [hr.2, hc.2]) _) ?_
    rintro _ w7 hx7 rfl
    have hx7 : Ext w6 w7 := by first | exact hx7 | exact ud hx7 | exact ud (ud hx7)
    simp only [↓vsd, vsn, gW, qd, qv, ev, pick, argE, zipE, ne_eq, eq_self, forall_const, implies_true, if_true, if_false, reduceIte, reduceCtorEq, Nat.reduceEqDiff, Nat.reduceAdd, Nat.reduceLT, ↓us_ispliceHeads, r_ispliceHeads]
    refine m_bsl (one_el rfl) ?_
    rintro b8 w8 hb8 hblk8 hx8 hs8
    have hx8 : Ext w7 w8 := by first | exact hx8 | exact ud hx8 | exact ud (ud hx8)
    simp only [↓vsd, vsn, gW, qd, qv, ev, pick, argE, zipE, ne_eq, eq_self, forall_const, implies_true, if_true, if_false, reduceIte, reduceCtorEq, Nat.reduceEqDiff, Nat.reduceAdd, Nat.reduceLT, ↓us_ispliceHeads, r_ispliceHeads]
    have hx48 := ((hx5.trans hx6).trans hx7).trans hx8
    refine m_app (ho4.ext hx48) (Sq.one fS_len hblk8 rfl) fS_one (by decide) (by rw [hdsS_len, List.length_singleton]; omega) (by decide) (hx4.trans hx48).size ?_
    rintro x9 w9 ho9 hg9
    have hx9 := (ho4.ext hx48).grown (hx4.trans hx48) (Nat.le_refl _) hg9
    simp only [↓vsd, vsn, gW, qd, qv, ev, pick, argE, zipE, ne_eq, eq_self, forall_const, implies_true, if_true, if_false, reduceIte, reduceCtorEq, Nat.reduceEqDiff, Nat.reduceAdd, Nat.reduceLT, ↓us_ispliceHeads, r_ispliceHeads]
    exact ⟨inR_i64 (by omega), UpTo.next hlt ⟨x9, rfl, ho9.to (by rw [hdsS_succ n css b s t (i + 1)]; rfl), hx9⟩⟩
  · obtain rfl : i = t.length / 2 := by omega
    have hltI : ¬ ((t.length / 2 : Nat) : Int) < ((t.length / 2 : Nat) : Int) := by omega
    simp only [↓vsd, vsn, gW, qd, qv, ev, pick, argE, zipE, ne_eq, eq_self, forall_const, implies_true, if_true, if_false, reduceIte, reduceCtorEq, Nat.reduceEqDiff, Nat.reduceAdd, Nat.reduceLT, ↓us_ispliceHeads, r_ispliceHeads, hltI]
    exact ⟨hx04, ho4.mono hx1.size⟩
theorem sl14Heads_ok (v : Value) (ms : List MS) (css : List (List (List UInt8))) (b s t : List UInt8) (n : Nat) (hS : SplOk ms css b s t) (hn : (ms.getD 0 MS.nil).st = n) (h8 : 3 ≤ n ∧ n ≤ 8) (w : World) (h : SqM w v ms css) : Fn 91 [v, kV b s, S t] w (fun r w' => Own fS 1 9 w.heap.size w' r (hdsS n css b s t (t.length / 2 + 1))) := by
  (refine callsV_of mix Tryz.func91 c_sl14Heads ?_; simp only [↓vsd, vsn, gW, qd, qv, ev, pick, argE, zipE, ne_eq, eq_self, forall_const, implies_true, if_true, if_false, reduceIte, reduceCtorEq, Nat.reduceEqDiff, Nat.reduceAdd, Nat.reduceLT, ↓us_sl14Heads, r_sl14Heads])
  refine m_al ?_
  rintro b1 w1 hb1 hblk1 hx1 hs1
  have h1 : Blk w1 b1 (fQ b s) 27 := hblk1
  have hq1 := h.ext hx1
  have hz : 0 < ms.length := by have := hS.1.1; omega
  have z1 := hq1.st0 hz
  rw [hn] at z1
  have p1 := hq1.p0 hz
  have htl := hS.2.2.1
  simp only [↓vsd, vsn, gW, qd, qv, ev, pick, argE, zipE, ne_eq, eq_self, forall_const, implies_true, if_true, if_false, reduceIte, reduceCtorEq, Nat.reduceEqDiff, Nat.reduceAdd, Nat.reduceLT, ↓us_sl14Heads, r_sl14Heads, hq1.1.facts, z1, p1]
  refine ⟨by omega, m_call (sl1Rounds_ok n (by omega) _) ?_⟩
  rintro _ w2 hx2 rfl
  have hx2 : Ext w1 w2 := by first | exact hx2 | exact ud hx2 | exact ud (ud hx2)
  simp only [↓vsd, vsn, gW, qd, qv, ev, pick, argE, zipE, ne_eq, eq_self, forall_const, implies_true, if_true, if_false, reduceIte, reduceCtorEq, Nat.reduceEqDiff, Nat.reduceAdd, Nat.reduceLT, ↓us_sl14Heads, r_sl14Heads]
  refine m_bsl (one_el rfl) ?_
  rintro b3 w3 hb3 hblk3 hx3 hs3
  have hx3 : Ext w2 w3 := by first | exact hx3 | exact ud hx3 | exact ud (ud hx3)
  have hx13 := hx2.trans hx3
  simp only [↓vsd, vsn, gW, qd, qv, ev, pick, argE, zipE, ne_eq, eq_self, forall_const, implies_true, if_true, if_false, reduceIte, reduceCtorEq, Nat.reduceEqDiff, Nat.reduceAdd, Nat.reduceLT, ↓us_sl14Heads, r_sl14Heads]
  refine m_upto (t.length / 2) (fun i vs w' => ∃ x, vs = [S (hdS n css b s t i), x, .int .i64 (2 * i : Nat)] ∧ Own fS 1 9 w1.heap.size w' x (hdsS n css b s t (i + 1)) ∧ Ext w1 w') ⟨_, rfl, (Own.one fS_len hblk3 rfl (by have := hx2.size; omega)).to rfl, hx13⟩ ?_
  rintro i vs w4 hi ⟨x, rfl, ho4, hx4⟩
  have hq4 := hq1.ext hx4
  have h14 := h1.ext hx4
  have hx04 := hx1.trans hx4
  by_cases hlt : i < t.length / 2
  · have hltI : ((2 * i : Nat) : Int) < t.length := by omega
    obtain ⟨ha, hst, hM, hcall⟩ := spl_at hS hn hlt
    obtain ⟨_, _, _, hmI⟩ := mA_lt hS.2 hlt
    have hr := hdS_row hS hn h8 i (by omega)
    have hc := headC_row hM [t.getD (2 * i + 1) 0]
    have e3 : ((2 * i : Nat) : Int) + 1 = ((2 * i + 1 : Nat) : Int) := by omega
    have e4 : ((2 * i : Nat) : Int) + 2 = ((2 * i + 2 : Nat) : Int) := by omega
    have hs1 : (t.take (2 * i + 2)).drop (2 * i + 1) = [t.getD (2 * i + 1) 0] := sub_one t (2 * i + 1) (by omega)
    have hx8 : (t.getD (2 * i) 0).toNat < 256 := (t.getD (2 * i) 0).toNat_lt
    have q4 := hq4.at ha hst
    have hxd : Ext w4 w4.drew := dr (Ext.refl _)
    have q4d := (hq4.ext hxd).at ha hst
    have hq4f := hq4.1.facts
    have h14d := h14.ext hxd
    simp only [↓vsd, vsn, gW, qd, qv, ev, pick, argE, zipE, ne_eq, eq_self, forall_const, implies_true, if_true, if_false, reduceIte, reduceCtorEq, Nat.reduceEqDiff, Nat.reduceAdd, Nat.reduceLT, ↓us_sl14Heads, r_sl14Heads, hltI, e3, e4, hs1, hmI, h14.facts, h14d.facts, fQg, hq4f, q4, q4d]
    refine ⟨by omega, inR_i64 (by omega), ⟨by omega, by omega⟩, inR_i64 (by omega), inR_i64 (by omega), by omega, ?_⟩
    refine m_call (sl8Head_ok _ n _ (css.getD (mA t i) []) b s _ hM _ (by first | exact hq4.2.2 _ ha | exact (hq4.2.2 _ ha).ext (dr (Ext.refl _)))) ?_
    rintro _ w6 hx6 rfl
    have hx6 : Ext w4 w6 := by first | exact hx6 | exact ud hx6 | exact ud (ud hx6)
    simp only [↓vsd, vsn, gW, qd, qv, ev, pick, argE, zipE, ne_eq, eq_self, forall_const, implies_true, if_true, if_false, reduceIte, reduceCtorEq, Nat.reduceEqDiff, Nat.reduceAdd, Nat.reduceLT, ↓us_sl14Heads, r_sl14Heads]
    refine m_call (sl1Times_ok _ _ hc.1 (by rw [hr.2, hc.2]) _) ?_
    rintro _ w7 hx7 rfl
    have hx7 : Ext w6 w7 := by first | exact hx7 | exact ud hx7 | exact ud (ud hx7)
    simp only [↓vsd, vsn, gW, qd, qv, ev, pick, argE, zipE, ne_eq, eq_self, forall_const, implies_true, if_true, if_false, reduceIte, reduceCtorEq, Nat.reduceEqDiff, Nat.reduceAdd, Nat.reduceLT, ↓us_sl14Heads, r_sl14Heads]
    refine m_bsl (one_el rfl) ?_
    rintro b8 w8 hb8 hblk8 hx8 hs8
    have hx8 : Ext w7 w8 := by first | exact hx8 | exact ud hx8 | exact ud (ud hx8)
    simp only [↓vsd, vsn, gW, qd, qv, ev, pick, argE, zipE, ne_eq, eq_self, forall_const, implies_true, if_true, if_false, reduceIte, reduceCtorEq, Nat.reduceEqDiff, Nat.reduceAdd, Nat.reduceLT, ↓us_sl14Heads, r_sl14Heads]
    have hx48 := (hx6.trans hx7).trans hx8
    refine m_app (ho4.ext hx48) (Sq.one fS_len hblk8 rfl) fS_one (by decide) (by rw [hdsS_len, List.length_singleton]; omega) (by decide) (hx4.trans hx48).size ?_
    rintro x9 w9 ho9 hg9
    have hx9 := (ho4.ext hx48).grown (hx4.trans hx48) (Nat.le_refl _) hg9
    have e5 : ((2 * i : Nat) : Int) + 2 = ((2 * (i + 1) : Nat) : Int) := by omega
    simp only [↓vsd, vsn, gW, qd, qv, ev, pick, argE, zipE, ne_eq, eq_self, forall_const, implies_true, if_true, if_false, reduceIte, reduceCtorEq, Nat.reduceEqDiff, Nat.reduceAdd, Nat.reduceLT, ↓us_sl14Heads, r_sl14Heads, e5]
    exact ⟨inR_i64 (by omega), UpTo.next hlt ⟨x9, rfl, ho9.to (by rw [hdsS_succ n css b s t (i + 1)]; rfl), hx9⟩⟩
  · have hltI : ¬ ((2 * i : Nat) : Int) < t.length := by omega
    obtain rfl : i = t.length / 2 := by omega
    simp only [↓vsd, vsn, gW, qd, qv, ev, pick, argE, zipE, ne_eq, eq_self, forall_const, implies_true, if_true, if_false, reduceIte, reduceCtorEq, Nat.reduceEqDiff, Nat.reduceAdd, Nat.reduceLT, ↓us_sl14Heads, r_sl14Heads, hltI]
    exact ⟨hx04, ho4.mono hx1.size⟩
theorem sl14Rows_ok (v : Value) (ms : List MS) (css : List (List (List UInt8))) (b s t : List UInt8) (n : Nat) (hS : SplOk ms css b s t) (hn : (ms.getD 0 MS.nil).st = n) (h8 : 3 ≤ n ∧ n ≤ 8) (w : World) (h : SqM w v ms css) : Fn 96 [v, kV b s, S t] w (fun r w' => Own fS 1 9 w.heap.size w' r (rwsS n css b s t (t.length / 2))) := by
  (refine callsV_of mix Tryz.func96 c_sl14Rows ?_; simp only [↓vsd, vsn, gW, qd, qv, ev, pick, argE, zipE, ne_eq, eq_self, forall_const, implies_true, if_true, if_false, reduceIte, reduceCtorEq, Nat.reduceEqDiff, Nat.reduceAdd, Nat.reduceLT, ↓us_sl14Rows, r_sl14Rows])
  refine m_al ?_
  rintro b1 w1 hb1 hblk1 hx1 hs1
  have h1 : Blk w1 b1 (fQ b s) 27 := hblk1
  have hq1 := h.ext hx1
  have htl := hS.2.2.1
  simp only [↓vsd, vsn, gW, qd, qv, ev, pick, argE, zipE, ne_eq, eq_self, forall_const, implies_true, if_true, if_false, reduceIte, reduceCtorEq, Nat.reduceEqDiff, Nat.reduceAdd, Nat.reduceLT, ↓us_sl14Rows, r_sl14Rows, h1.facts, fQg]
  refine m_call (sl14Heads_ok v ms css b s t n hS hn h8 _ (by first | exact h.ext hx1 | exact h.ext (dr hx1))) ?_
  rintro y w2 hx2 hoy
  have hx2 : Ext w1 w2 := by first | exact hx2 | exact ud hx2 | exact ud (ud hx2)
  have hx12 := hx1.trans hx2
  simp only [↓vsd, vsn, gW, qd, qv, ev, pick, argE, zipE, ne_eq, eq_self, forall_const, implies_true, if_true, if_false, reduceIte, reduceCtorEq, Nat.reduceEqDiff, Nat.reduceAdd, Nat.reduceLT, ↓us_sl14Rows, r_sl14Rows]
  refine m_upto (t.length / 2) (fun i vs w' => ∃ x, vs = [x, .int .i64 (2 * i : Nat)] ∧ Own fS 1 9 w2.heap.size w' x (rwsS n css b s t i) ∧ Ext w2 w') ⟨_, rfl, (Own.nil fS_len).to rfl, Ext.refl _⟩ ?_
  rintro i vs w4 hi ⟨x, rfl, ho4, hx4⟩
  have hx04 := hx12.trans hx4
  have hq4 := h.ext hx04
  have hy4 := hoy.sq.ext hx4
  by_cases hlt : i < t.length / 2
  · have hltI : ((2 * i : Nat) : Int) < t.length := by omega
    obtain ⟨ha, hst, hM, hcall⟩ := spl_at hS hn hlt
    obtain ⟨_, _, _, hmI⟩ := mA_lt hS.2 hlt
    have hr := hdS_row hS hn h8 i (by omega)
    have hlen := rwS_len hS hn i (by omega)
    have h40 := hM.1.2.2.1.2
    have e5 : ((2 * i : Nat) : Int) + 2 = ((2 * (i + 1) : Nat) : Int) := by omega
    have e6 : ((2 * i : Nat) : Int).tdiv 2 = (i : Int) := by
      have : ((2 * i : Nat) : Int).tdiv 2 = ((2 * i / 2 : Nat) : Int) := rfl
      rw [this]; omega
    have hx8 : (t.getD (2 * i) 0).toNat < 256 := (t.getD (2 * i) 0).toNat_lt
    have hyl := hdsS_len n css b s t (t.length / 2 + 1)
    have q4 := hq4.at ha hst
    have hq4f := hq4.1.facts
    have y4 := hy4.at1 [] (i := i) (by rw [hyl]; omega)
    rw [hdsS_get n css b s t _ _ (by omega)] at y4
    have hyf := hy4.facts
    rw [hyl] at hyf
    simp only [↓vsd, vsn, gW, qd, qv, ev, pick, argE, zipE, ne_eq, eq_self, forall_const, implies_true, if_true, if_false, reduceIte, reduceCtorEq, Nat.reduceEqDiff, Nat.reduceAdd, Nat.reduceLT, ↓us_sl14Rows, r_sl14Rows, hltI, e6, hmI, hq4f, q4, hyf, y4]
    refine ⟨by omega, inR_i64 (by omega), ⟨by omega, by omega⟩, ⟨by decide, inR_i64 (by omega)⟩, ⟨by omega, by omega⟩, ?_⟩
    refine m_call (sl11Lead_ok _ n _ (css.getD (mA t i) []) _ hM.1 hr.1 _ (by first | exact hq4.2.2 _ ha | exact (hq4.2.2 _ ha).ext (dr (Ext.refl _)))) ?_
    rintro z w7 hx7 ho7
    have hx7 : Ext w4 w7 := by first | exact hx7 | exact ud hx7 | exact ud (ud hx7)
    simp only [↓vsd, vsn, gW, qd, qv, ev, pick, argE, zipE, ne_eq, eq_self, forall_const, implies_true, if_true, if_false, reduceIte, reduceCtorEq, Nat.reduceEqDiff, Nat.reduceAdd, Nat.reduceLT, ↓us_sl14Rows, r_sl14Rows]
    refine m_app (ho4.ext hx7) ho7.sq fS_one (by decide) (by rw [rowsU_len]; omega) (by decide) (hx4.trans hx7).size ?_
    rintro z' w8 ho8 hg8
    have hx8' := (ho4.ext hx7).grown (hx4.trans hx7) (Nat.le_refl _) hg8
    simp only [↓vsd, vsn, gW, qd, qv, ev, pick, argE, zipE, ne_eq, eq_self, forall_const, implies_true, if_true, if_false, reduceIte, reduceCtorEq, Nat.reduceEqDiff, Nat.reduceAdd, Nat.reduceLT, ↓us_sl14Rows, r_sl14Rows, e5]
    exact ⟨inR_i64 (by omega), UpTo.next hlt ⟨z', rfl, ho8.to (rwsS_succ n css b s t i).symm, hx8'⟩⟩
  · have hltI : ¬ ((2 * i : Nat) : Int) < t.length := by omega
    obtain rfl : i = t.length / 2 := by omega
    simp only [↓vsd, vsn, gW, qd, qv, ev, pick, argE, zipE, ne_eq, eq_self, forall_const, implies_true, if_true, if_false, reduceIte, reduceCtorEq, Nat.reduceEqDiff, Nat.reduceAdd, Nat.reduceLT, ↓us_sl14Rows, r_sl14Rows, hltI]
    exact ⟨hx04, ho4.mono hx12.size⟩
/-- A splice whose rows are not too many. -/
def SrOk (ms : List MS) (css : List (List (List UInt8))) (b s t : List UInt8) : Prop := SplOk ms css b s t ∧ (rwsS (ms.getD 0 MS.nil).st.toNat css b s t (t.length / 2)).length ≤ 800
instance (ms : List MS) (css : List (List (List UInt8))) (b s t : List UInt8) : Decidable (SrOk ms css b s t) := by unfold SrOk; infer_instance
def srV (ms : List MS) (css : List (List (List UInt8))) (b s t : List UInt8) : List (List UInt8) := if SrOk ms css b s t then rwsS (ms.getD 0 MS.nil).st.toNat css b s t (t.length / 2) else []
theorem sSpliceRows_ok (v : Value) (ms : List MS) (css : List (List (List UInt8))) (b s t : List UInt8) (hsm : MSmall ms css) (hb : b.length ≤ 1048576 ∧ s.length ≤ 1048576) (ht : t.length ≤ 1048576) (w : World) (h : SqM w v ms css) : Fn 38 [v, kV b s, S t] w (fun r w' => ∃ x, r = .tuple ⟨[x, .bool (decide (SrOk ms css b s t))]⟩ ∧ Own fS 1 9 w.heap.size w' x (srV ms css b s t)) := by
  (refine callsV_of mix Tryz.func38 c_sSpliceRows ?_; simp only [↓vsd, vsn, gW, qd, qv, ev, pick, argE, zipE, ne_eq, eq_self, forall_const, implies_true, if_true, if_false, reduceIte, reduceCtorEq, Nat.reduceEqDiff, Nat.reduceAdd, Nat.reduceLT, ↓us_sSpliceRows, r_sSpliceRows])
  refine m_al ?_
  rintro b1 w1 hb1 hblk1 hx1 hs1
  have h1 : Blk w1 b1 (fQ b s) 27 := hblk1
  simp only [↓vsd, vsn, gW, qd, qv, ev, pick, argE, zipE, ne_eq, eq_self, forall_const, implies_true, if_true, if_false, reduceIte, reduceCtorEq, Nat.reduceEqDiff, Nat.reduceAdd, Nat.reduceLT, ↓us_sSpliceRows, r_sSpliceRows, h1.facts, fQg]
  refine m_call (sl14Asked_ok v ms css b s t hsm hb ht _ (by first | exact h.ext hx1 | exact h.ext (dr hx1))) ?_
  rintro _ w2 hx2 rfl
  have hx2 : Ext w1 w2 := by first | exact hx2 | exact ud hx2 | exact ud (ud hx2)
  have hx12 := hx1.trans hx2
  have h12 := h1.ext hx2
  by_cases hS : SplOk ms css b s t
  · obtain ⟨n, hn, h8⟩ := spl_st hS
    have hnn : (ms.getD 0 MS.nil).st.toNat = n := by rw [hn]; rfl
    have hlen := rwS_len hS hn (t.length / 2) (Nat.le_refl _)
    have htl := hS.2.2.1
    simp only [↓vsd, vsn, gW, qd, qv, ev, pick, argE, zipE, ne_eq, eq_self, forall_const, implies_true, if_true, if_false, reduceIte, reduceCtorEq, Nat.reduceEqDiff, Nat.reduceAdd, Nat.reduceLT, ↓us_sSpliceRows, r_sSpliceRows, hS, h12.facts, fQg]
    refine m_call (sl14Rows_ok v ms css b s t n hS hn h8 _ (by first | exact h.ext hx12 | exact h.ext (dr hx12))) ?_
    rintro y w3 hx3 hoy
    have hx3 : Ext w2 w3 := by first | exact hx3 | exact ud hx3 | exact ud (ud hx3)
    have hx13 := hx12.trans hx3
    have h13 := h12.ext hx3
    simp only [↓vsd, vsn, gW, qd, qv, ev, pick, argE, zipE, ne_eq, eq_self, forall_const, implies_true, if_true, if_false, reduceIte, reduceCtorEq, Nat.reduceEqDiff, Nat.reduceAdd, Nat.reduceLT, ↓us_sSpliceRows, r_sSpliceRows, hoy.sq.facts, h13.facts, fQg]
    refine ⟨fun hgt => ?_, fun hle => ?_⟩
    · have hno : ¬ SrOk ms css b s t := fun hh => by have := hh.2; rw [hnn] at this; omega
      exact ⟨hx13, _, by rw [decide_eq_false hno], by rw [srV, if_neg hno]; exact Own.nil fS_len⟩
    · have hok : SrOk ms css b s t := ⟨hS, by rw [hnn]; omega⟩
      refine m_call (sl14Rows_ok v ms css b s t n hS hn h8 _ (by first | exact h.ext hx13 | exact h.ext (dr hx13))) ?_
      rintro y4 w4 hx4 hoy4
      have hx4 : Ext w3 w4 := by first | exact hx4 | exact ud hx4 | exact ud (ud hx4)
      simp only [↓vsd, vsn, gW, qd, qv, ev, pick, argE, zipE, ne_eq, eq_self, forall_const, implies_true, if_true, if_false, reduceIte, reduceCtorEq, Nat.reduceEqDiff, Nat.reduceAdd, Nat.reduceLT, ↓us_sSpliceRows, r_sSpliceRows]
      exact ⟨hx13.trans hx4, y4, by rw [decide_eq_true hok], by rw [srV, if_pos hok, hnn]; exact hoy4.mono hx13.size⟩
  · have hno : ¬ SrOk ms css b s t := fun hh => hS hh.1
    have hD := decide_eq_false hS
    simp only [↓vsd, vsn, gW, qd, qv, ev, pick, argE, zipE, ne_eq, eq_self, forall_const, implies_true, if_true, if_false, reduceIte, reduceCtorEq, Nat.reduceEqDiff, Nat.reduceAdd, Nat.reduceLT, ↓us_sSpliceRows, r_sSpliceRows, hD]
    exact ⟨hx12, _, by rw [decide_eq_false hno], by rw [srV, if_neg hno]; exact Own.nil fS_len⟩
theorem iSpliceRows_ok (v : Value) (ms : List MS) (css : List (List (List UInt8))) (b s t : List UInt8) (hsm : MSmall ms css) (hb : b.length ≤ 1048576 ∧ s.length ≤ 1048576) (ht : t.length ≤ 1048576) (w : World) (h : SqM w v ms css) : Fn 37 [v, kV b s, S t] w (fun r w' => ∃ x, r = .tuple ⟨[x, .bool (decide (SrOk ms css b s t))]⟩ ∧ Own fS 1 9 w.heap.size w' x (srV ms css b s t)) := by
  (refine callsV_of mix Tryz.func37 c_iSpliceRows ?_; simp only [↓vsd, vsn, gW, qd, qv, ev, pick, argE, zipE, ne_eq, eq_self, forall_const, implies_true, if_true, if_false, reduceIte, reduceCtorEq, Nat.reduceEqDiff, Nat.reduceAdd, Nat.reduceLT, ↓us_iSpliceRows, r_iSpliceRows])
  refine m_al ?_
  rintro b1 w1 hb1 hblk1 hx1 hs1
  have h1 : Blk w1 b1 (fQ b s) 27 := hblk1
  simp only [↓vsd, vsn, gW, qd, qv, ev, pick, argE, zipE, ne_eq, eq_self, forall_const, implies_true, if_true, if_false, reduceIte, reduceCtorEq, Nat.reduceEqDiff, Nat.reduceAdd, Nat.reduceLT, ↓us_iSpliceRows, r_iSpliceRows, h1.facts, fQg]
  refine m_call (igoodSplice_ok v ms css b s t hsm hb ht _ (by first | exact h.ext hx1 | exact h.ext (dr hx1))) ?_
  rintro _ w2 hx2 rfl
  have hx2 : Ext w1 w2 := by first | exact hx2 | exact ud hx2 | exact ud (ud hx2)
  have hx12 := hx1.trans hx2
  have h12 := h1.ext hx2
  by_cases hS : SplOk ms css b s t
  · obtain ⟨n, hn, h8⟩ := spl_st hS
    have hnn : (ms.getD 0 MS.nil).st.toNat = n := by rw [hn]; rfl
    have hlen := rwS_len hS hn
    have htl := hS.2.2.1
    simp only [↓vsd, vsn, gW, qd, qv, ev, pick, argE, zipE, ne_eq, eq_self, forall_const, implies_true, if_true, if_false, reduceIte, reduceCtorEq, Nat.reduceEqDiff, Nat.reduceAdd, Nat.reduceLT, ↓us_iSpliceRows, r_iSpliceRows, hS, h12.facts, fQg]
    refine m_call (ispliceHeads_ok v ms css b s t n hS hn h8 _ (by first | exact h.ext hx12 | exact h.ext (dr hx12))) ?_
    rintro y w3 hx3 hoy
    have hx3 : Ext w2 w3 := by first | exact hx3 | exact ud hx3 | exact ud (ud hx3)
    have hx13 := hx12.trans hx3
    simp only [↓vsd, vsn, gW, qd, qv, ev, pick, argE, zipE, ne_eq, eq_self, forall_const, implies_true, if_true, if_false, reduceIte, reduceCtorEq, Nat.reduceEqDiff, Nat.reduceAdd, Nat.reduceLT, ↓us_iSpliceRows, r_iSpliceRows]
    refine m_bsl (by simp) ?_
    rintro b4 w4 hb4 hblk4 hx4 hs4
    have hx4 : Ext w3 w4 := by first | exact hx4 | exact ud hx4 | exact ud (ud hx4)
    have hx14 := hx13.trans hx4
    have hd2 : ((t.length : Nat) : Int).tdiv 2 = ((t.length / 2 : Nat) : Int) := rfl
    simp only [↓vsd, vsn, gW, qd, qv, ev, pick, argE, zipE, ne_eq, eq_self, forall_const, implies_true, if_true, if_false, reduceIte, reduceCtorEq, Nat.reduceEqDiff, Nat.reduceAdd, Nat.reduceLT, ↓us_iSpliceRows, r_iSpliceRows, hd2]
    refine ⟨⟨by decide, inR_i64 (by omega)⟩, ?_⟩
    refine m_upto (t.length / 2) (fun i vs w' => ∃ x, vs = [x, .int .i64 i] ∧ Own fS 1 9 w3.heap.size w' x (rwsS n css b s t i) ∧ (rwsS n css b s t i).length ≤ 800 ∧ Ext w3 w') ⟨_, rfl, (Own.empty fS_len hblk4 (by omega)).to rfl, by simp [rwsS], hx4⟩ ?_
    rintro i vs w5 hi ⟨x, rfl, ho5, h800, hx5⟩
    have hx05 := hx13.trans hx5
    have hq5 := h.ext hx05
    have hy5 := hoy.sq.ext hx5
    by_cases hlt : i < t.length / 2
    · have hltI : (i : Int) < ((t.length / 2 : Nat) : Int) := by omega
      have hltJ : ¬ ((t.length / 2 : Nat) : Int) ≤ i := by omega
      obtain ⟨ha, hst, hM, hcall⟩ := spl_at hS hn hlt
      have hr := hdS_row hS hn h8 i (by omega)
      have h40 := hM.1.2.2.1.2
      have hyl := hdsS_len n css b s t (t.length / 2 + 1)
      have hxd : Ext w5 w5.drew := dr (Ext.refl _)
      have hqf := hq5.1.facts
      have hyf := hy5.facts
      rw [hyl] at hyf
      have q5 := hq5.at ha hst
      have q5d := (hq5.ext hxd).at ha hst
      have y5 := hy5.at1 [] (i := i) (by rw [hyl]; omega)
      rw [hdsS_get n css b s t _ _ (by omega)] at y5
      simp only [↓vsd, vsn, gW, qd, qv, ev, pick, argE, zipE, ne_eq, eq_self, forall_const, implies_true, if_true, if_false, reduceIte, reduceCtorEq, Nat.reduceEqDiff, Nat.reduceAdd, Nat.reduceLT, ↓us_iSpliceRows, r_iSpliceRows, hltI, hltJ, hyf, y5]
      refine ⟨by omega, ?_⟩
      refine m_call (imethodAt_ok ms.length t i hS.2 hlt _) ?_
      rintro _ w6 hx6 rfl
      have hx6 : Ext w5 w6 := by first | exact hx6 | exact ud hx6 | exact ud (ud hx6)
      have hq6 := hq5.ext hx6
      simp only [↓vsd, vsn, gW, qd, qv, ev, pick, argE, zipE, ne_eq, eq_self, forall_const, implies_true, if_true, if_false, reduceIte, reduceCtorEq, Nat.reduceEqDiff, Nat.reduceAdd, Nat.reduceLT, ↓us_iSpliceRows, r_iSpliceRows, hqf, q5, q5d]
      refine ⟨⟨by omega, by omega⟩, ?_⟩
      refine m_call (ileadRows_ok _ n _ (css.getD (mA t i) []) _ hM.1 hr.1 _ (by first | exact hq6.2.2 _ ha | exact (hq5.2.2 _ ha).ext (dr hx6) | exact (hq5.2.2 _ ha).ext hx6)) ?_
      rintro z w7 hx7 ho7
      have hx7 : Ext w6 w7 := by first | exact hx7 | exact ud hx7 | exact ud (ud hx7)
      have hx57 := hx6.trans hx7
      simp only [↓vsd, vsn, gW, qd, qv, ev, pick, argE, zipE, ne_eq, eq_self, forall_const, implies_true, if_true, if_false, reduceIte, reduceCtorEq, Nat.reduceEqDiff, Nat.reduceAdd, Nat.reduceLT, ↓us_iSpliceRows, r_iSpliceRows]
      refine m_app (ho5.ext hx57) ho7.sq fS_one (by decide) (by rw [rowsU_len]; omega) (by decide) (hx5.trans hx57).size ?_
      rintro z' w8 ho8 hg8
      have hx8' := (ho5.ext hx57).grown (hx5.trans hx57) (Nat.le_refl _) hg8
      have ho8 := ho8.to (rwsS_succ n css b s t i).symm
      have h8f := ho8.sq.facts
      simp only [↓vsd, vsn, gW, qd, qv, ev, pick, argE, zipE, ne_eq, eq_self, forall_const, implies_true, if_true, if_false, reduceIte, reduceCtorEq, Nat.reduceEqDiff, Nat.reduceAdd, Nat.reduceLT, ↓us_iSpliceRows, r_iSpliceRows, h8f]
      refine ⟨fun hgt => ?_, fun hle => ?_⟩
      · have hno : ¬ SrOk ms css b s t := fun hh => by
          have h1 := hh.2
          rw [hnn] at h1
          have := rwsS_mono n css b s t (i + 1) (t.length / 2) hlt
          omega
        exact ⟨hx13.trans hx8', _, by rw [decide_eq_false hno], by rw [srV, if_neg hno]; exact Own.nil fS_len⟩
      · exact ⟨inR_i64 (by omega), UpTo.next hlt ⟨z', rfl, ho8, by omega, hx8'⟩⟩
    · obtain rfl : i = t.length / 2 := by omega
      have hltI : ¬ ((t.length / 2 : Nat) : Int) < ((t.length / 2 : Nat) : Int) := by omega
      have hok : SrOk ms css b s t := ⟨hS, by rw [hnn]; exact h800⟩
      simp only [↓vsd, vsn, gW, qd, qv, ev, pick, argE, zipE, ne_eq, eq_self, forall_const, implies_true, if_true, if_false, reduceIte, reduceCtorEq, Nat.reduceEqDiff, Nat.reduceAdd, Nat.reduceLT, ↓us_iSpliceRows, r_iSpliceRows, hltI]
      exact ⟨hx05, x, by rw [decide_eq_true hok], by rw [srV, if_pos hok, hnn]; exact ho5.mono hx13.size⟩
  · have hno : ¬ SrOk ms css b s t := fun hh => hS hh.1
    have hD := decide_eq_false hS
    simp only [↓vsd, vsn, gW, qd, qv, ev, pick, argE, zipE, ne_eq, eq_self, forall_const, implies_true, if_true, if_false, reduceIte, reduceCtorEq, Nat.reduceEqDiff, Nat.reduceAdd, Nat.reduceLT, ↓us_iSpliceRows, r_iSpliceRows, hD]
    exact ⟨hx12, _, by rw [decide_eq_false hno], by rw [srV, if_neg hno]; exact Own.nil fS_len⟩
end Go.Proofs.YthopbkemkfjebaaGreat
