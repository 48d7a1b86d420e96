/-
  The drawing of splices.
  Conditions: none.
-/
import Derived.Test.YthopbkemkfjebaaGreatKA67
import Derived.Test.YthopbkemkfjebaaGreatKD22
import Derived.Test.YthopbkemkfjebaaGreatKD3
import Derived.Test.YthopbkemkfjebaaGreatKPs
set_option linter.unusedSimpArgs false
set_option linter.unusedVariables false
set_option linter.defProp false
namespace Go.Proofs.YthopbkemkfjebaaGreat
open Go Go.RowKit
section
variable (P : Program) (k : KT) (e : Env) (w : World)
abbrev b127_1 : X := (.cond (.t 7) (.seq (.reg [4] (.c (.q 8 [] (.mv (.t 0))) (.c (.q 4 [] (.mv (.t 8))) .nil))) .ret) .skip)
def t127_1 := b127_1
theorem u127_1 : vcK P t127_1 k e w = vcK P b127_1 k e w := rfl
abbrev b127_2 : X := (.seq (.reg [4] (.c (.q 9 [] (.mv (.t 1))) (.c (.q 4 [] (.mv (.t 9))) .nil))) .ret)
def t127_2 := b127_2
theorem u127_2 : vcK P t127_2 k e w = vcK P b127_2 k e w := rfl
abbrev b127_3 : X := (.seq (.seq (.reg [0, 1, 7] (.c (.q 5 [] (.mv (.t 0))) (.c (.q 6 [] (.mv (.t 1))) (.c (.q 7 [] (.bin .lss (.t 5) (.t 6))) .nil)))) t127_1) t127_2)
def t127_3 := b127_3
theorem u127_3 : vcK P t127_3 k e w = vcK P b127_3 k e w := rfl
abbrev b127_0 : X := (.seq (.reg [0, 1] (.c (.q 4 [] (.mv (.c (.int .i64 0)))) .nil)) t127_3)
def x_sl1Least := b127_0
theorem u127_0 : vcK P x_sl1Least k e w = vcK P b127_0 k e w := rfl
def r_sl1Least : List XO := [(.mv (.t 4))]
theorem c_sl1Least : convF Tryz.prog [56, 58, 59, 60, 61, 62, 72, 73, 77, 97, 98, 109, 110, 111, 112, 115, 128, 136] Tryz.f127 [([0, 1], []), ([0, 1, 7], []), ([4], []), ([4], [])] = some (x_sl1Least, r_sl1Least) := by kernel_rfl
def us_sl1Least :=  (aI (aI @u127_0 @u127_1) (aI @u127_2 @u127_3))
abbrev b126_1 : X := (.cond (.t 7) (.seq (.reg [4] (.c (.q 8 [] (.mv (.t 0))) (.c (.q 4 [] (.mv (.t 8))) .nil))) .ret) .skip)
def t126_1 := b126_1
theorem u126_1 : vcK P t126_1 k e w = vcK P b126_1 k e w := rfl
abbrev b126_2 : X := (.seq (.reg [4] (.c (.q 9 [] (.mv (.t 1))) (.c (.q 4 [] (.mv (.t 9))) .nil))) .ret)
def t126_2 := b126_2
theorem u126_2 : vcK P t126_2 k e w = vcK P b126_2 k e w := rfl
abbrev b126_3 : X := (.seq (.seq (.reg [0, 1, 7] (.c (.q 5 [] (.mv (.t 0))) (.c (.q 6 [] (.mv (.t 1))) (.c (.q 7 [] (.bin .gtr (.t 5) (.t 6))) .nil)))) t126_1) t126_2)
def t126_3 := b126_3
theorem u126_3 : vcK P t126_3 k e w = vcK P b126_3 k e w := rfl
abbrev b126_0 : X := (.seq (.reg [0, 1] (.c (.q 4 [] (.mv (.c (.int .i64 0)))) .nil)) t126_3)
def x_sl1Most := b126_0
theorem u126_0 : vcK P x_sl1Most k e w = vcK P b126_0 k e w := rfl
def r_sl1Most : List XO := [(.mv (.t 4))]
theorem c_sl1Most : convF Tryz.prog [56, 58, 59, 60, 61, 62, 72, 73, 77, 97, 98, 109, 110, 111, 112, 115, 128, 136] Tryz.f126 [([0, 1], []), ([0, 1, 7], []), ([4], []), ([4], [])] = some (x_sl1Most, r_sl1Most) := by kernel_rfl
def us_sl1Most :=  (aI (aI @u126_0 @u126_1) (aI @u126_2 @u126_3))
abbrev b97_1 : X := (.cond (.t 13) .skip (.exit 0))
def t97_1 := b97_1
theorem u97_1 : vcK P t97_1 k e w = vcK P b97_1 k e w := rfl
abbrev b97_2 : X := (.cond (.t 17) .skip (.exit 2))
def t97_2 := b97_2
theorem u97_2 : vcK P t97_2 k e w = vcK P b97_2 k e w := rfl
abbrev b97_3 : X := (.cond (.t 28) (.seq (.reg [0, 3, 4] (.c (.q 29 [] (.mv (.t 3))) (.c (.q 30 [] (.lda 3 (.t 6))) (.c (.e (some 31) [] (.bsl 25 3 [(.t 30)])) (.c (.e (some 32) [] (.app 53 25 3 48 [(S []), (.int .i64 0), (.slice none 0 0)] 53 (.t 29) (.t 31))) (.c (.q 3 [] (.mv (.t 32))) .nil)))))) (.exit 2)) .skip)
def t97_3 := b97_3
theorem u97_3 : vcK P t97_3 k e w = vcK P b97_3 k e w := rfl
abbrev b97_4 : X := (.seq (.drw [0, 3, 4, 5, 6, 28] (.c (.q 22 [] (.fa 1 (.t 6))) (.c (.q 23 [] (.ld (.t 22))) (.c (.q 24 [] (.mv (.t 3))) (.c (.q 25 [] (.ia 3 (.t 24) (.c (.int .i64 0)))) (.c (.q 26 [] (.fa 1 (.t 25))) (.c (.q 27 [] (.ld (.t 26))) (.c (.q 28 [] (.bin .eql (.t 23) (.t 27))) .nil)))))))) t97_3)
def t97_4 := b97_4
theorem u97_4 : vcK P t97_4 k e w = vcK P b97_4 k e w := rfl
abbrev b97_5 : X := (.reg [0, 3, 4, 5] (.c (.q 18 [] (.mv (.t 5))) (.c (.q 19 [] (.bin .add (.t 18) (.c (.int .i64 1)))) (.c (.q 5 [] (.mv (.t 19))) .nil))))
def t97_5 := b97_5
theorem u97_5 : vcK P t97_5 k e w = vcK P b97_5 k e w := rfl
abbrev b97_6 : X := (.seq (.blk 3 (.seq (.reg [0, 3, 4, 5, 6] (.c (.q 20 [] (.mv (.t 0))) (.c (.e (some 21) [] (.call true 109 [(.t 20)])) (.c (.e (some 6) [] (.al 25 [(S []), (.int .i64 0), (.slice none 0 0)])) (.c (.e none [] (.st 3 (.t 6) (.t 21))) .nil))))) t97_4)) t97_5)
def t97_6 := b97_6
theorem u97_6 : vcK P t97_6 k e w = vcK P b97_6 k e w := rfl
abbrev b97_7 : X := (.seq (.seq (.reg [0, 3, 4, 5, 17] (.c (.q 16 [] (.mv (.t 5))) (.c (.q 17 [] (.bin .lss (.t 16) (.c (.int .i64 20)))) .nil))) t97_2) t97_6)
def t97_7 := b97_7
theorem u97_7 : vcK P t97_7 k e w = vcK P b97_7 k e w := rfl
abbrev b97_8 : X := (.blk 2 (.loop [3, 5] [0, 4] t97_7))
def t97_8 := b97_8
theorem u97_8 : vcK P t97_8 k e w = vcK P b97_8 k e w := rfl
abbrev b97_9 : X := (.reg [0, 3, 4] (.c (.q 14 [] (.mv (.t 4))) (.c (.q 15 [] (.bin .sub (.t 14) (.c (.int .i64 1)))) (.c (.q 4 [] (.mv (.t 15))) .nil))))
def t97_9 := b97_9
theorem u97_9 : vcK P t97_9 k e w = vcK P b97_9 k e w := rfl
abbrev b97_10 : X := (.seq (.blk 1 (.seq (.reg [0, 3, 4, 5] (.c (.q 5 [] (.mv (.c (.int .i64 0)))) .nil)) t97_8)) t97_9)
def t97_10 := b97_10
theorem u97_10 : vcK P t97_10 k e w = vcK P b97_10 k e w := rfl
abbrev b97_11 : X := (.seq (.seq (.reg [0, 3, 4, 13] (.c (.q 12 [] (.mv (.t 4))) (.c (.q 13 [] (.bin .gtr (.t 12) (.c (.int .i64 0)))) .nil))) t97_1) t97_10)
def t97_11 := b97_11
theorem u97_11 : vcK P t97_11 k e w = vcK P b97_11 k e w := rfl
abbrev b97_12 : X := (.blk 0 (.loop [3, 4] [0] t97_11))
def t97_12 := b97_12
theorem u97_12 : vcK P t97_12 k e w = vcK P b97_12 k e w := rfl
abbrev b97_13 : X := (.seq (.reg [2] (.c (.q 33 [] (.mv (.t 3))) (.c (.q 2 [] (.mv (.t 33))) .nil))) .ret)
def t97_13 := b97_13
theorem u97_13 : vcK P t97_13 k e w = vcK P b97_13 k e w := rfl
abbrev b97_14 : X := (.seq (.seq (.reg [0, 3, 4] (.c (.q 10 [] (.mv (.t 0))) (.c (.e (some 11) [] (.call true 61 [(.t 10), (.c (.int .i64 3))])) (.c (.q 4 [] (.mv (.t 11))) .nil)))) t97_12) t97_13)
def t97_14 := b97_14
theorem u97_14 : vcK P t97_14 k e w = vcK P b97_14 k e w := rfl
abbrev b97_15 : X := (.seq (.reg [0, 3] (.c (.q 7 [] (.mv (.t 0))) (.c (.e (some 8) [] (.call true 109 [(.t 7)])) (.c (.e (some 9) [] (.bsl 25 3 [(.t 8)])) (.c (.q 3 [] (.mv (.t 9))) .nil))))) t97_14)
def t97_15 := b97_15
theorem u97_15 : vcK P t97_15 k e w = vcK P b97_15 k e w := rfl
abbrev b97_0 : X := (.seq (.reg [0] (.c (.q 2 [] (.mv (.c (.slice none 0 0)))) .nil)) t97_15)
def x_sl1Cur_spliced := b97_0
theorem u97_0 : vcK P x_sl1Cur_spliced k e w = vcK P b97_0 k e w := rfl
def r_sl1Cur_spliced : List XO := [(.mv (.t 2))]
theorem c_sl1Cur_spliced : convF Tryz.prog [56, 58, 59, 60, 61, 62, 72, 73, 77, 97, 98, 109, 110, 111, 112, 115, 128, 136] Tryz.f97 [([0], []), ([0, 3], []), ([0, 3, 4], []), ([3, 4], [0]), ([0, 3, 4, 13], []), ([0, 3, 4, 5], []), ([3, 5], [0, 4]), ([0, 3, 4, 5, 17], []), ([0, 3, 4, 5, 6], []), ([0, 3, 4, 5, 6, 28], []), ([0, 3, 4], []), ([0, 3, 4, 5], []), ([0, 3, 4], []), ([2], [])] = some (x_sl1Cur_spliced, r_sl1Cur_spliced) := by kernel_rfl
def us_sl1Cur_spliced :=  (aI (aI (aI (aI @u97_0 @u97_1) (aI @u97_2 @u97_3)) (aI (aI @u97_4 @u97_5) (aI @u97_6 @u97_7))) (aI (aI (aI @u97_8 @u97_9) (aI @u97_10 @u97_11)) (aI (aI @u97_12 @u97_13) (aI @u97_14 @u97_15))))
abbrev b77_1 : X := (.cond (.t 12) .skip (.exit 0))
def t77_1 := b77_1
theorem u77_1 : vcK P t77_1 k e w = vcK P b77_1 k e w := rfl
abbrev b77_2 : X := (.drw [0, 1, 5, 6] (.c (.q 20 [] (.mv (.t 5))) (.c (.q 21 [] (.mv (.t 7))) (.c (.q 22 [] (.mv (.t 7))) (.c (.q 23 [] (.bin .add (.t 22) (.c (.int .i64 1)))) (.c (.q 24 [] (.sub (.s [65, 66, 67, 68]) (some (.t 21)) (some (.t 23)))) (.c (.q 25 [] (.mv (.t 0))) (.c (.e (some 26) [] (.bsl 9 1 [(.s [112]), (.s [112]), (.s [98]), (.s [115])])) (.c (.e (some 27) [] (.call true 110 [(.t 25), (.t 26)])) (.c (.q 28 [] (.bin .add (.t 24) (.t 27))) (.c (.q 29 [] (.bin .add (.t 20) (.t 28))) (.c (.q 5 [] (.mv (.t 29))) .nil))))))))))))
def t77_2 := b77_2
theorem u77_2 : vcK P t77_2 k e w = vcK P b77_2 k e w := rfl
abbrev b77_3 : X := (.reg [0, 1, 5, 6] (.c (.q 13 [] (.mv (.t 6))) (.c (.q 14 [] (.bin .sub (.t 13) (.c (.int .i64 1)))) (.c (.q 6 [] (.mv (.t 14))) .nil))))
def t77_3 := b77_3
theorem u77_3 : vcK P t77_3 k e w = vcK P b77_3 k e w := rfl
abbrev b77_4 : X := (.seq (.blk 1 (.seq (.reg [0, 1, 5, 6, 7] (.c (.q 15 [] (.mv (.t 0))) (.c (.q 16 [] (.mv (.t 1))) (.c (.e (some 17) [] (.call false 127 [(.t 16), (.c (.int .i64 4))])) (.c (.e (some 18) [] (.call false 126 [(.c (.int .i64 1)), (.t 17)])) (.c (.e (some 19) [] (.call true 61 [(.t 15), (.t 18)])) (.c (.q 7 [] (.mv (.t 19))) .nil))))))) t77_2)) t77_3)
def t77_4 := b77_4
theorem u77_4 : vcK P t77_4 k e w = vcK P b77_4 k e w := rfl
abbrev b77_5 : X := (.seq (.seq (.reg [0, 1, 5, 6, 12] (.c (.q 11 [] (.mv (.t 6))) (.c (.q 12 [] (.bin .gtr (.t 11) (.c (.int .i64 0)))) .nil))) t77_1) t77_4)
def t77_5 := b77_5
theorem u77_5 : vcK P t77_5 k e w = vcK P b77_5 k e w := rfl
abbrev b77_6 : X := (.blk 0 (.loop [5, 6] [0, 1] t77_5))
def t77_6 := b77_6
theorem u77_6 : vcK P t77_6 k e w = vcK P b77_6 k e w := rfl
abbrev b77_7 : X := (.cond (.t 31) (.reg [5] (.c (.q 32 [] (.mv (.t 0))) (.c (.q 33 [] (.mv (.t 5))) (.c (.e (some 34) [] (.call true 128 [(.t 32), (.t 33), (.s [65, 66, 68, 69, 112, 98, 115, 120])])) (.c (.q 5 [] (.mv (.t 34))) .nil))))) .skip)
def t77_7 := b77_7
theorem u77_7 : vcK P t77_7 k e w = vcK P b77_7 k e w := rfl
abbrev b77_8 : X := (.seq (.reg [4] (.c (.q 35 [] (.mv (.t 5))) (.c (.q 4 [] (.mv (.t 35))) .nil))) .ret)
def t77_8 := b77_8
theorem u77_8 : vcK P t77_8 k e w = vcK P b77_8 k e w := rfl
abbrev b77_9 : X := (.seq (.seq (.reg [0, 5, 31] (.c (.q 30 [] (.mv (.t 0))) (.c (.e (some 31) [] (.call true 58 [(.t 30), (.c (.int .i64 12))])) .nil))) t77_7) t77_8)
def t77_9 := b77_9
theorem u77_9 : vcK P t77_9 k e w = vcK P b77_9 k e w := rfl
abbrev b77_10 : X := (.seq (.seq (.reg [0, 1, 5, 6] (.c (.q 8 [] (.mv (.t 0))) (.c (.e (some 9) [] (.call true 61 [(.t 8), (.c (.int .i64 6))])) (.c (.q 10 [] (.bin .add (.c (.int .i64 1)) (.t 9))) (.c (.q 6 [] (.mv (.t 10))) .nil))))) t77_6) t77_9)
def t77_10 := b77_10
theorem u77_10 : vcK P t77_10 k e w = vcK P b77_10 k e w := rfl
abbrev b77_11 : X := (.seq (.reg [0, 1, 5] (.c (.q 5 [] (.mv (.s []))) .nil)) t77_10)
def t77_11 := b77_11
theorem u77_11 : vcK P t77_11 k e w = vcK P b77_11 k e w := rfl
abbrev b77_0 : X := (.seq (.reg [0, 1] (.c (.q 4 [] (.mv (.s []))) .nil)) t77_11)
def x_sl1Cur_splice := b77_0
theorem u77_0 : vcK P x_sl1Cur_splice k e w = vcK P b77_0 k e w := rfl
def r_sl1Cur_splice : List XO := [(.mv (.t 4))]
theorem c_sl1Cur_splice : convF Tryz.prog [56, 58, 59, 60, 61, 62, 72, 73, 77, 97, 98, 109, 110, 111, 112, 115, 128, 136] Tryz.f77 [([0, 1], []), ([0, 1, 5], []), ([0, 1, 5, 6], []), ([5, 6], [0, 1]), ([0, 1, 5, 6, 12], []), ([0, 1, 5, 6, 7], []), ([0, 1, 5, 6], []), ([0, 1, 5, 6], []), ([0, 5, 31], []), ([5], []), ([4], [])] = some (x_sl1Cur_splice, r_sl1Cur_splice) := by kernel_rfl
def us_sl1Cur_splice :=  (aI (aI (aI @u77_0 (aI @u77_1 @u77_2)) (aI @u77_3 (aI @u77_4 @u77_5))) (aI (aI @u77_6 (aI @u77_7 @u77_8)) (aI @u77_9 (aI @u77_10 @u77_11))))
abbrev b130_1 : X := (.cond (.t 26) (.reg [3, 5, 6] (.c (.q 5 [] (.mv (.c (.slice none 0 0)))) .nil)) .skip)
def t130_1 := b130_1
theorem u130_1 : vcK P t130_1 k e w = vcK P b130_1 k e w := rfl
abbrev b130_2 : X := (.cond (.t 19) (.reg [3, 5, 6] (.c (.q 21 [] (.mv (.t 5))) (.c (.q 22 [] (.mv (.t 4))) (.c (.e (some 23) [] (.call true 56 [(.t 22)])) (.c (.e (some 24) [] (.bsl 25 3 [(.t 23)])) (.c (.e (some 25) [] (.app 53 25 3 48 [(S []), (.int .i64 0), (.slice none 0 0)] 53 (.t 21) (.t 24))) (.c (.q 5 [] (.mv (.t 25))) .nil))))))) (.seq (.reg [3, 5, 6, 26] (.c (.q 27 [] (.bin .eql (.t 18) (.c (.int .i64 1)))) (.c (.q 26 [] (.mv (.t 27))) .nil))) t130_1))
def t130_2 := b130_2
theorem u130_2 : vcK P t130_2 k e w = vcK P b130_2 k e w := rfl
abbrev b130_3 : X := (.blk 0 (.seq (.reg [3, 4, 5, 6, 18, 19] (.c (.q 20 [] (.bin .eql (.t 18) (.c (.int .i64 0)))) (.c (.q 19 [] (.mv (.t 20))) .nil))) t130_2))
def t130_3 := b130_3
theorem u130_3 : vcK P t130_3 k e w = vcK P b130_3 k e w := rfl
abbrev b130_4 : X := (.seq (.drw [2, 3] (.c (.q 28 [] (.mv (.t 5))) (.c (.q 29 [] (.lda 2 (.t 6))) (.c (.q 2 [] (.mv (.t 28))) (.c (.e none [] (.st 2 (.t 3) (.t 29))) .nil))))) .ret)
def t130_4 := b130_4
theorem u130_4 : vcK P t130_4 k e w = vcK P b130_4 k e w := rfl
abbrev b130_5 : X := (.seq (.seq (.reg [3, 4, 5, 6, 18] (.c (.q 17 [] (.mv (.t 4))) (.c (.e (some 18) [] (.call true 61 [(.t 17), (.c (.int .i64 12))])) .nil))) t130_3) t130_4)
def t130_5 := b130_5
theorem u130_5 : vcK P t130_5 k e w = vcK P b130_5 k e w := rfl
abbrev b130_6 : X := (.seq (.reg [3, 4, 5, 6] (.c (.q 12 [] (.mv (.t 4))) (.c (.q 13 [] (.mv (.t 5))) (.c (.q 14 [] (.ia 3 (.t 13) (.c (.int .i64 0)))) (.c (.q 15 [] (.lda 3 (.t 14))) (.c (.e (some 16) [] (.call true 72 [(.t 12), (.t 15)])) (.c (.e (some 6) [] (.al 27 [(S []), (S [])])) (.c (.e none [] (.st 2 (.t 6) (.t 16))) .nil)))))))) t130_5)
def t130_6 := b130_6
theorem u130_6 : vcK P t130_6 k e w = vcK P b130_6 k e w := rfl
abbrev b130_7 : X := (.seq (.reg [3, 4, 5] (.c (.q 10 [] (.mv (.t 4))) (.c (.e (some 11) [] (.call true 97 [(.t 10)])) (.c (.q 5 [] (.mv (.t 11))) .nil)))) t130_6)
def t130_7 := b130_7
theorem u130_7 : vcK P t130_7 k e w = vcK P b130_7 k e w := rfl
abbrev b130_8 : X := (.seq (.reg [3, 4] (.c (.q 7 [] (.mv (.t 0))) (.c (.q 8 [] (.bld [(.slice none 0 0), (.int .i64 0), (.int .u64 0)] [(0, 0, (.t 7))])) (.c (.e (some 9) [] (.box 78 (.t 8))) (.c (.q 4 [] (.mv (.t 9))) .nil))))) t130_7)
def t130_8 := b130_8
theorem u130_8 : vcK P t130_8 k e w = vcK P b130_8 k e w := rfl
abbrev b130_0 : X := (.seq (.reg [0, 3] (.c (.q 2 [] (.mv (.c (.slice none 0 0)))) (.c (.e (some 3) [] (.al 27 [(S []), (S [])])) .nil))) t130_8)
def x_sDrawGoodSpliced := b130_0
theorem u130_0 : vcK P x_sDrawGoodSpliced k e w = vcK P b130_0 k e w := rfl
def r_sDrawGoodSpliced : List XO := [(.mv (.t 2)), (.lda 2 (.t 3))]
theorem c_sDrawGoodSpliced : convF Tryz.prog [56, 58, 59, 60, 61, 62, 72, 73, 77, 97, 98, 109, 110, 111, 112, 115, 128, 136] Tryz.f130 [([0, 3], []), ([3, 4], []), ([3, 4, 5], []), ([3, 4, 5, 6], []), ([3, 4, 5, 6, 18], []), ([3, 4, 5, 6, 18, 19], []), ([3, 5, 6], []), ([3, 5, 6, 26], []), ([3, 5, 6], []), ([2, 3], [])] = some (x_sDrawGoodSpliced, r_sDrawGoodSpliced) := by kernel_rfl
def us_sDrawGoodSpliced :=  (aI (aI (aI @u130_0 @u130_1) (aI @u130_2 @u130_3)) (aI (aI @u130_4 @u130_5) (aI @u130_6 (aI @u130_7 @u130_8))))
abbrev b81_1 : X := (.seq (.reg [2, 3] (.c (.q 19 [] (.mv (.t 4))) (.c (.q 20 [] (.mv (.t 6))) (.c (.q 21 [] (.mv (.t 4))) (.c (.q 22 [] (.lens (.t 21))) (.c (.q 23 [] (.mv (.t 6))) (.c (.e (some 24) [] (.call true 61 [(.t 23), (.c (.int .i64 12))])) (.c (.q 25 [] (.bin .quo (.t 24) (.c (.int .i64 11)))) (.c (.q 26 [] (.bin .add (.t 22) (.t 25))) (.c (.e (some 27) [] (.call true 77 [(.t 20), (.t 26)])) (.c (.q 2 [] (.mv (.t 19))) (.c (.q 3 [] (.mv (.t 27))) .nil)))))))))))) .ret)
def t81_1 := b81_1
theorem u81_1 : vcK P t81_1 k e w = vcK P b81_1 k e w := rfl
abbrev b81_2 : X := (.seq (.reg [4, 6] (.c (.q 12 [] (.mv (.t 0))) (.c (.q 13 [] (.mv (.t 0))) (.c (.q 14 [] (.lens (.t 13))) (.c (.q 15 [] (.bin .quo (.t 14) (.c (.int .i64 2)))) (.c (.q 16 [] (.ssl 1 (.t 12) (some (.t 15)) none)) (.c (.q 17 [] (.bld [(.slice none 0 0), (.int .i64 0), (.int .u64 0)] [(0, 0, (.t 16))])) (.c (.e (some 18) [] (.box 78 (.t 17))) (.c (.q 6 [] (.mv (.t 18))) .nil))))))))) t81_1)
def t81_2 := b81_2
theorem u81_2 : vcK P t81_2 k e w = vcK P b81_2 k e w := rfl
abbrev b81_3 : X := (.seq (.reg [0, 4] (.c (.q 8 [] (.mv (.t 0))) (.c (.e (some 9) [] (.call false 130 [(.t 8)])) (.c (.q 7 [] (.mv (.t 9))) (.c (.q 10 [] (.ext 0 (.t 7))) (.c (.q 11 [] (.ext 1 (.t 7))) (.c (.e (some 5) [] (.al 27 [(S []), (S [])])) (.c (.q 4 [] (.mv (.t 10))) (.c (.e none [] (.st 2 (.t 5) (.t 11))) .nil))))))))) t81_2)
def t81_3 := b81_3
theorem u81_3 : vcK P t81_3 k e w = vcK P b81_3 k e w := rfl
abbrev b81_0 : X := (.seq (.reg [0] (.c (.q 2 [] (.mv (.c (.slice none 0 0)))) (.c (.q 3 [] (.mv (.s []))) .nil))) t81_3)
def x_sDrawGoodSplice := b81_0
theorem u81_0 : vcK P x_sDrawGoodSplice k e w = vcK P b81_0 k e w := rfl
def r_sDrawGoodSplice : List XO := [(.mv (.t 2)), (.mv (.t 3))]
theorem c_sDrawGoodSplice : convF Tryz.prog [56, 58, 59, 60, 61, 62, 72, 73, 77, 97, 98, 109, 110, 111, 112, 115, 128, 136] Tryz.f81 [([0], []), ([0, 4], []), ([4, 6], []), ([2, 3], [])] = some (x_sDrawGoodSplice, r_sDrawGoodSplice) := by kernel_rfl
def us_sDrawGoodSplice :=  (aI (aI @u81_0 @u81_1) (aI @u81_2 @u81_3))
abbrev b26_1 : X := (.seq (.reg [2, 3] (.c (.q 4 [] (.mv (.t 0))) (.c (.e (some 5) [] (.call false 81 [(.t 4)])) (.c (.q 6 [] (.ext 0 (.t 5))) (.c (.q 7 [] (.ext 1 (.t 5))) (.c (.q 2 [] (.mv (.t 6))) (.c (.q 3 [] (.mv (.t 7))) .nil))))))) .ret)
def t26_1 := b26_1
theorem u26_1 : vcK P t26_1 k e w = vcK P b26_1 k e w := rfl
abbrev b26_0 : X := (.seq (.reg [0] (.c (.q 2 [] (.mv (.c (.slice none 0 0)))) (.c (.q 3 [] (.mv (.s []))) .nil))) t26_1)
def x_sDrawBalanceOf := b26_0
theorem u26_0 : vcK P x_sDrawBalanceOf k e w = vcK P b26_0 k e w := rfl
def r_sDrawBalanceOf : List XO := [(.mv (.t 2)), (.mv (.t 3))]
theorem c_sDrawBalanceOf : convF Tryz.prog [56, 58, 59, 60, 61, 62, 72, 73, 77, 97, 98, 109, 110, 111, 112, 115, 128, 136] Tryz.f26 [([0], []), ([2, 3], [])] = some (x_sDrawBalanceOf, r_sDrawBalanceOf) := by kernel_rfl
def us_sDrawBalanceOf :=  (aI @u26_0 @u26_1)
abbrev b23_1 : X := (.seq (.reg [2] (.c (.q 7 [] (.mv (.t 3))) (.c (.e (some 8) [] (.call true 77 [(.t 7), (.c (.int .i64 4))])) (.c (.q 2 [] (.mv (.t 8))) .nil)))) .ret)
def t23_1 := b23_1
theorem u23_1 : vcK P t23_1 k e w = vcK P b23_1 k e w := rfl
abbrev b23_2 : X := (.seq (.reg [3] (.c (.q 4 [] (.mv (.t 0))) (.c (.q 5 [] (.bld [(.slice none 0 0), (.int .i64 0), (.int .u64 0)] [(0, 0, (.t 4))])) (.c (.e (some 6) [] (.box 78 (.t 5))) (.c (.q 3 [] (.mv (.t 6))) .nil))))) t23_1)
def t23_2 := b23_2
theorem u23_2 : vcK P t23_2 k e w = vcK P b23_2 k e w := rfl
abbrev b23_0 : X := (.seq (.reg [0] (.c (.q 2 [] (.mv (.s []))) .nil)) t23_2)
def x_sDrawSwitchesIn := b23_0
theorem u23_0 : vcK P x_sDrawSwitchesIn k e w = vcK P b23_0 k e w := rfl
def r_sDrawSwitchesIn : List XO := [(.mv (.t 2))]
theorem c_sDrawSwitchesIn : convF Tryz.prog [56, 58, 59, 60, 61, 62, 72, 73, 77, 97, 98, 109, 110, 111, 112, 115, 128, 136] Tryz.f23 [([0], []), ([3], []), ([2], [])] = some (x_sDrawSwitchesIn, r_sDrawSwitchesIn) := by kernel_rfl
def us_sDrawSwitchesIn :=  (aI @u23_0 (aI @u23_1 @u23_2))
end
/-- Methods in slices of their own, from block B on. -/
structure MsH (B : Nat) (w : World) (r : Value) (ms : List MS) (css : List (List Bs)) : Prop where
  own : Own fMS 3 25 B w r ms
  len : css.length = ms.length
  all : ∀ i < ms.length, Own fS 1 9 B w (ms.getD i MS.nil).sv.v (css.getD i []) ∧ ∀ c, (ms.getD i MS.nil).sv.v.ownBlock = some c → r.ownBlock ≠ some c
section
variable {B b : Nat} {w w' : World} {r r' : Value} {ms : List MS} {css : List (List Bs)}
theorem MsH.sq (h : MsH B w r ms css) : SqM w r ms css := ⟨h.own.sq, h.len, fun i hi => (h.all i hi).1.sq⟩
theorem MsH.keep (h : MsH B w r ms css) (hg : w.grownBy w' (some b)) (hb : b < B) : MsH B w' r ms css :=
  ⟨h.own.keep hg (fun c hc => by rw [← Option.some.inj hc]; exact hb), h.len, fun i hi => ⟨(h.all i hi).1.keep hg (fun c hc => by rw [← Option.some.inj hc]; exact hb), (h.all i hi).2⟩⟩
theorem MsH.ext (h : MsH B w r ms css) (hx : Ext w w') : MsH B w' r ms css := ⟨h.own.ext hx, h.len, fun i hi => ⟨(h.all i hi).1.ext hx, (h.all i hi).2⟩⟩
theorem MsH.upd (h : MsH B w r ms css) {c : Nat} (hu : Upd w w' c) (hr : Away r c) (hs : ∀ i < ms.length, Away (ms.getD i MS.nil).sv.v c) : MsH B w' r ms css := ⟨h.own.upd hu hr, h.len, fun i hi => ⟨(h.all i hi).1.upd hu (hs i hi), (h.all i hi).2⟩⟩
theorem MsH.mono (h : MsH B w r ms css) {B' : Nat} (hb : B' ≤ B) : MsH B' w r ms css := ⟨h.own.mono hb, h.len, fun i hi => ⟨(h.all i hi).1.mono hb, (h.all i hi).2⟩⟩
/-- One more method. -/
theorem MsH.app (h : MsH B w r ms css) {m : MS} {cs : List Bs} (ho : Own fMS 3 25 B w' r' (ms ++ [m])) (hg : w.grownBy w' r.ownBlock) (hn : ∀ c, r'.ownBlock = some c → r.ownBlock = some c ∨ w.heap.size ≤ c) (hm : Own fS 1 9 B w m.sv.v cs) (hma : ∀ c, m.sv.v.ownBlock = some c → r.ownBlock ≠ some c) : MsH B w' r' (ms ++ [m]) (css ++ [cs]) := by
  have hl := h.len
  refine ⟨ho, by simp [hl], fun i hi => ?_⟩
  rw [List.length_append, List.length_singleton] at hi
  by_cases he : i < ms.length
  · obtain ⟨h1, h2⟩ := h.all i he
    have e1 : (ms ++ [m]).getD i MS.nil = ms.getD i MS.nil := by rw [List.getD_eq_getElem?_getD, List.getElem?_append_left he, List.getD_eq_getElem?_getD]
    have e2 : (css ++ [cs]).getD i [] = css.getD i [] := by rw [List.getD_eq_getElem?_getD, List.getElem?_append_left (by omega), List.getD_eq_getElem?_getD]
    rw [e1, e2]
    refine ⟨h1.off hg (fun c hc e => h2 c e hc), fun c hc e => ?_⟩
    rcases hn c e with h3 | h3
    · exact h2 c hc h3
    · have := h1.lt c hc; omega
  · obtain rfl : i = ms.length := by omega
    have e1 : (ms ++ [m]).getD ms.length MS.nil = m := by rw [List.getD_eq_getElem?_getD, List.getElem?_append_right (Nat.le_refl _)]; simp
    have e2 : (css ++ [cs]).getD ms.length [] = cs := by rw [← hl, List.getD_eq_getElem?_getD, List.getElem?_append_right (Nat.le_refl _)]; simp
    rw [e1, e2]
    refine ⟨hm.off hg (fun c hc e => hma c e hc), fun c hc e => ?_⟩
    rcases hn c e with h3 | h3
    · exact hma c hc h3
    · have := hm.lt c hc; omega
end
theorem Own.lit1 {α : Type} {f : α → List Value} {z E B c : Nat} {w : World} {a : α} {cells : List Value} (hf : ∀ a, (f a).length = z) (hb : Blk w c cells E) (e : cells = f a) (hB : B ≤ c) : Own f z E B w (.slice (some ⟨c, 0, none⟩) 1 1) [a] := by
  subst e
  exact ⟨hf, .inr ⟨c, 1, _, rfl, hB, hb, Nat.le_refl _, by unfold maxLen; omega, by rw [hf]; omega, by rw [List.flatMap_cons, List.flatMap_nil, List.append_nil]; exact List.take_of_length_le (by rw [hf]; simp)⟩⟩
/-- Methods of one stage. -/
def OneSt (ms : List MS) (css : List (List Bs)) : Prop := (1 ≤ ms.length ∧ ms.length ≤ 3) ∧ ∀ i < ms.length, IsMethod (ms.getD i MS.nil).nm (ms.getD i MS.nil).st (css.getD i []) ∧ (ms.getD i MS.nil).st = (ms.getD 0 MS.nil).st
theorem sl1Cur_spliced_ok (W : World) (b n : Nat) (w : World) (hn : n ≤ 600000000) (hc : Cur W b n w) : CurFn 97 [cV b] W b n 4000 w (fun r w' => ∃ ms css, MsH w.heap.size w' r ms css ∧ OneSt ms css) := by
  (refine callsV_of mix Tryz.func97 c_sl1Cur_spliced ?_; simp only [↓vsd, vsn, gW, qd, qv, ev, pick, argE, zipE, ne_eq, eq_self, forall_const, implies_true, if_true, if_false, reduceIte, reduceCtorEq, Nat.reduceEqDiff, Nat.reduceAdd, Nat.reduceLT, ↓us_sl1Cur_spliced, r_sl1Cur_spliced])
  have hlt := hc.lt
  have hlt6 := hlt
  refine m_callw (.inl rfl) (sl1Cur_method_ok W b n w (by omega) hc) ?_
  rintro _ w2 ⟨hc2, hg2, nm, st, x, cs, rfl, ho2, hm, hst6⟩
  simp only [↓vsd, vsn, gW, qd, qv, ev, pick, argE, zipE, ne_eq, eq_self, forall_const, implies_true, if_true, if_false, reduceIte, reduceCtorEq, Nat.reduceEqDiff, Nat.reduceAdd, Nat.reduceLT, ↓us_sl1Cur_spliced, r_sl1Cur_spliced]
  refine m_bsl (fun p hp => by simp only [List.mem_cons, List.not_mem_nil, or_false] at hp; rw [hp]; rfl) ?_
  rintro b3 w3 hb3 hblk3 hx3 hs3
  obtain ⟨sv, rfl⟩ := ho2.sq.sv
  have hM3 : MsH w.heap.size w3 (.slice (some ⟨b3, 0, none⟩) 1 1) [⟨nm, st, sv⟩] [cs] := by
    refine ⟨Own.lit1 fMS_len hblk3 (by rfl) (by have := hg2.size; omega), rfl, fun i hi => ?_⟩
    obtain rfl : i = 0 := by simp at hi; omega
    exact ⟨ho2.ext hx3, fun c hc e => by have := ho2.lt c hc; have e : b3 = c := Option.some.inj e; omega⟩
  have hc3 := hc2.ext hx3
  have hg3 := grown_trans hg2 (grown_ext (some b) hx3)
  simp only [↓vsd, vsn, gW, qd, qv, ev, pick, argE, zipE, ne_eq, eq_self, forall_const, implies_true, if_true, if_false, reduceIte, reduceCtorEq, Nat.reduceEqDiff, Nat.reduceAdd, Nat.reduceLT, ↓us_sl1Cur_spliced, r_sl1Cur_spliced]
  refine m_callw (.inl rfl) (sl1Cur_pick_ok W b _ 3 (by omega) _ (by omega) hc3) ?_
  rintro _ w4 ⟨hc4, hg4, p, rfl, hp⟩
  have hM4 := hM3.keep hg4 hlt.2
  have hg04 := grown_trans hg3 hg4
  simp only [↓vsd, vsn, gW, qd, qv, ev, pick, argE, zipE, ne_eq, eq_self, forall_const, implies_true, if_true, if_false, reduceIte, reduceCtorEq, Nat.reduceEqDiff, Nat.reduceAdd, Nat.reduceLT, ↓us_sl1Cur_spliced, r_sl1Cur_spliced]
  refine m_upto p (fun j vs w' => ∃ y ms css, vs = [y, .int .i64 ((p : Int) - j)] ∧ MsH w.heap.size w' y ms css ∧ (1 ≤ ms.length ∧ ms.length ≤ 1 + j) ∧ (∀ i < ms.length, IsMethod (ms.getD i MS.nil).nm (ms.getD i MS.nil).st (css.getD i []) ∧ (ms.getD i MS.nil).st = (ms.getD 0 MS.nil).st) ∧ Cur W b (n + 62 + 1200 * j) w' ∧ w.grownBy w' (some b)) ⟨_, _, _, by simp, hM4, by simp, fun i hi => by
    obtain rfl : i = 0 := by simp at hi; omega
    exact ⟨hm, rfl⟩, hc4.mono (by omega), hg04⟩ ?_
  rintro j vs w5 hj ⟨y, ms, css, rfl, hM5, hl5, ha5, hc5, hg5⟩
  by_cases hlt : j < p
  · have hltI : (0 : Int) < (p : Int) - j := by omega
    have hltJ : ¬ (p : Int) - j ≤ 0 := by omega
    have ej : (p : Int) - j - 1 = (p : Int) - ((j + 1 : Nat) : Int) := by omega
    simp only [↓vsd, vsn, gW, qd, qv, ev, pick, argE, zipE, ne_eq, eq_self, forall_const, implies_true, if_true, if_false, reduceIte, reduceCtorEq, Nat.reduceEqDiff, Nat.reduceAdd, Nat.reduceLT, ↓us_sl1Cur_spliced, r_sl1Cur_spliced, hltI, hltJ]
    refine m_upto 20 (fun i vs w' => vs = [y, .int .i64 i] ∧ MsH w.heap.size w' y ms css ∧ Cur W b (n + 62 + 1200 * j + 60 * i) w' ∧ w.grownBy w' (some b)) ⟨rfl, hM5, hc5, hg5⟩ ?_
    rintro i vs w6 hi ⟨rfl, hM6, hc6, hg6⟩
    by_cases hli : i < 20
    · have hliI : (i : Int) < 20 := by omega
      simp only [↓vsd, vsn, gW, qd, qv, ev, pick, argE, zipE, ne_eq, eq_self, forall_const, implies_true, if_true, if_false, reduceIte, reduceCtorEq, Nat.reduceEqDiff, Nat.reduceAdd, Nat.reduceLT, ↓us_sl1Cur_spliced, r_sl1Cur_spliced, hliI]
      refine m_callw (by first | exact .inl rfl | exact .inr rfl) (sl1Cur_method_ok W b _ w6 (by omega) hc6) ?_
      rintro _ w7 ⟨hc7, hg7, nm', st', x', cs', rfl, ho7, hm', hst7⟩
      obtain ⟨sv', rfl⟩ := ho7.sq.sv
      have hM7 := hM6.keep hg7 hlt6.2
      have hg07 := grown_trans hg6 hg7
      simp only [↓vsd, vsn, gW, qd, qv, ev, pick, argE, zipE, ne_eq, eq_self, forall_const, implies_true, if_true, if_false, reduceIte, reduceCtorEq, Nat.reduceEqDiff, Nat.reduceAdd, Nat.reduceLT, ↓us_sl1Cur_spliced, r_sl1Cur_spliced]
      refine m_al ?_
      rintro b8 w8 hb8 hblk8 hx8 hs8
      simp only [↓vsd, vsn, gW, qd, qv, ev, pick, argE, zipE, ne_eq, eq_self, forall_const, implies_true, if_true, if_false, reduceIte, reduceCtorEq, Nat.reduceEqDiff, Nat.reduceAdd, Nat.reduceLT, ↓us_sl1Cur_spliced, r_sl1Cur_spliced]
      refine m_st hblk8 rfl (Nat.le_refl 3) (fM_one nm' st' _ rfl) ?_
      rintro w9 hblk9 hu9
      have h9 : Blk w9 b8 (fM nm' st' sv'.v) 25 := hblk9
      have hx79 : Ext w7 w9 := hu9.below hx8 (by omega)
      have hM9 := hM7.ext hx79
      have hc9 := hc7.ext hx79
      have hg09 := grown_trans hg07 (grown_ext (some b) hx79)
      have q9 := hM9.sq.1.facts
      have s9 := hM9.sq.st0 (by omega)
      have z9 : (0 : Int) < ms.length := by omega
      have p9 := hM9.sq.p0 (by omega)
      by_cases he : st' = (ms.getD 0 MS.nil).st
      · simp only [↓vsd, vsn, gW, qd, qv, ev, pick, argE, zipE, ne_eq, eq_self, forall_const, implies_true, if_true, if_false, reduceIte, reduceCtorEq, Nat.reduceEqDiff, Nat.reduceAdd, Nat.reduceLT, ↓us_sl1Cur_spliced, r_sl1Cur_spliced, h9.facts, fMg, q9, s9, p9, z9, he]
        refine ⟨by decide, m_bsl (fun p hp => by simp only [List.mem_cons, List.not_mem_nil, or_false] at hp; rw [hp]; rfl) ?_⟩
        rintro b10 w10 hb10 hblk10 hx10 hs10
        have hx10 : Ext w9 w10 := by first | exact hx10 | exact ud hx10 | exact ud (ud hx10)
        have hM10 := hM9.ext hx10
        have hg010 := grown_trans hg09 (grown_ext (some b) hx10)
        have hlit : Own fMS 3 25 0 w10 (.slice (some ⟨b10, 0, none⟩) 1 1) [⟨nm', (ms.getD 0 MS.nil).st, sv'⟩] := Own.lit1 fMS_len hblk10 (by rfl) (Nat.zero_le _)
        have hw6 := hg6.size
        have hw7 := hg7.size
        simp only [↓vsd, vsn, gW, qd, qv, ev, pick, argE, zipE, ne_eq, eq_self, forall_const, implies_true, if_true, if_false, reduceIte, reduceCtorEq, Nat.reduceEqDiff, Nat.reduceAdd, Nat.reduceLT, ↓us_sl1Cur_spliced, r_sl1Cur_spliced]
        refine m_app2 hM10.own hlit.sq fMS_one (by decide) (by rw [List.length_singleton]; omega) (by decide) (by have := hg010.size; omega) ?_
        rintro y11 w11 ho11 hg11 hn11
        have hM11 := hM10.app ho11 hg11 hn11 ((ho7.ext (hx79.trans hx10)).mono hw6) (fun c hc e => by have h1 := (ho7.bound c hc).1; have h2 := hM6.own.lt c e; omega)
        have hc11 := (hc9.ext hx10).keep hg11 (fun c hc => by have := (hM10.own.bound c hc).1; omega)
        have hg011 := grown_new hg010 hg11 (fun c hc => (hM10.own.bound c hc).1)
        simp only [↓vsd, vsn, gW, qd, qv, ev, pick, argE, zipE, ne_eq, eq_self, forall_const, implies_true, if_true, if_false, reduceIte, reduceCtorEq, Nat.reduceEqDiff, Nat.reduceAdd, Nat.reduceLT, ↓us_sl1Cur_spliced, r_sl1Cur_spliced, ej]
        refine ⟨inR_i64 (by omega), UpTo.next hlt ⟨y11, _, _, rfl, hM11, by rw [List.length_append, List.length_singleton]; omega, fun q hq => ?_, hc11.mono (by omega), hg011⟩⟩
        have hl5' := hM10.len
        have e0 : (ms ++ [(⟨nm', (ms.getD 0 MS.nil).st, sv'⟩ : MS)]).getD 0 MS.nil = ms.getD 0 MS.nil := by rw [List.getD_eq_getElem?_getD, List.getElem?_append_left (by omega), List.getD_eq_getElem?_getD]
        rw [e0]
        rw [List.length_append, List.length_singleton] at hq
        by_cases hqe : q < ms.length
        · have e1 : (ms ++ [(⟨nm', (ms.getD 0 MS.nil).st, sv'⟩ : MS)]).getD q MS.nil = ms.getD q MS.nil := by rw [List.getD_eq_getElem?_getD, List.getElem?_append_left hqe, List.getD_eq_getElem?_getD]
          have e2 : (css ++ [cs']).getD q [] = css.getD q [] := by rw [List.getD_eq_getElem?_getD, List.getElem?_append_left (by omega), List.getD_eq_getElem?_getD]
          rw [e1, e2]
          exact ha5 q hqe
        · obtain rfl : q = ms.length := by omega
          have e1 : (ms ++ [(⟨nm', (ms.getD 0 MS.nil).st, sv'⟩ : MS)]).getD ms.length MS.nil = ⟨nm', (ms.getD 0 MS.nil).st, sv'⟩ := by rw [List.getD_eq_getElem?_getD, List.getElem?_append_right (Nat.le_refl _)]; simp
          have e2 : (css ++ [cs']).getD ms.length [] = cs' := by rw [← hl5', List.getD_eq_getElem?_getD, List.getElem?_append_right (Nat.le_refl _)]; simp
          rw [e1, e2]
          exact ⟨he ▸ hm', rfl⟩
      · simp only [↓vsd, vsn, gW, qd, qv, ev, pick, argE, zipE, ne_eq, eq_self, forall_const, implies_true, if_true, if_false, reduceIte, reduceCtorEq, Nat.reduceEqDiff, Nat.reduceAdd, Nat.reduceLT, ↓us_sl1Cur_spliced, r_sl1Cur_spliced, h9.facts, fMg, q9, s9, p9, z9, he]
        exact ⟨by decide, inR_i64 (by omega), UpTo.next hli ⟨rfl, hM9.ext (dr (Ext.refl _)), (hc9.ext (dr (Ext.refl _))).mono (by omega), grown_trans hg09 (grown_ext (some b) (dr (Ext.refl _)))⟩⟩
    · obtain rfl : i = 20 := by omega
      have hliI : ¬ ((20 : Nat) : Int) < 20 := by omega
      simp only [↓vsd, vsn, gW, qd, qv, ev, pick, argE, zipE, ne_eq, eq_self, forall_const, implies_true, if_true, if_false, reduceIte, reduceCtorEq, Nat.reduceEqDiff, Nat.reduceAdd, Nat.reduceLT, ↓us_sl1Cur_spliced, r_sl1Cur_spliced, hliI, ej]
      exact ⟨inR_i64 (by omega), UpTo.next hlt ⟨y, ms, css, rfl, hM6, by omega, ha5, hc6.mono (by omega), hg6⟩⟩
  · obtain rfl : j = p := by omega
    have hltI : ¬ (0 : Int) < (j : Int) - j := by omega
    simp only [↓vsd, vsn, gW, qd, qv, ev, pick, argE, zipE, ne_eq, eq_self, forall_const, implies_true, if_true, if_false, reduceIte, reduceCtorEq, Nat.reduceEqDiff, Nat.reduceAdd, Nat.reduceLT, ↓us_sl1Cur_spliced, r_sl1Cur_spliced, hltI]
    exact ⟨hc5.mono (by omega), hg5, ms, css, hM5, ⟨by omega, by omega⟩, ha5⟩
theorem sl1Most_okx (a b : Int) (w : World) : Fn 126 [.int .i64 a, .int .i64 b] w (fun r _ => r = .int .i64 (if b < a then a else b)) := by
  (refine callsV_of mix Tryz.func126 c_sl1Most ?_; simp only [↓vsd, vsn, gW, qd, qv, ev, pick, argE, zipE, ne_eq, eq_self, forall_const, implies_true, if_true, if_false, reduceIte, reduceCtorEq, Nat.reduceEqDiff, Nat.reduceAdd, Nat.reduceLT, ↓us_sl1Most, r_sl1Most])
  exact ⟨fun h => ⟨Ext.refl _, by rw [if_pos h]⟩, fun h => ⟨Ext.refl _, by rw [if_neg (by omega)]⟩⟩
theorem sl1Least_okx (a b : Int) (w : World) : Fn 127 [.int .i64 a, .int .i64 b] w (fun r _ => r = .int .i64 (if a < b then a else b)) := by
  (refine callsV_of mix Tryz.func127 c_sl1Least ?_; simp only [↓vsd, vsn, gW, qd, qv, ev, pick, argE, zipE, ne_eq, eq_self, forall_const, implies_true, if_true, if_false, reduceIte, reduceCtorEq, Nat.reduceEqDiff, Nat.reduceAdd, Nat.reduceLT, ↓us_sl1Least, r_sl1Least])
  exact ⟨fun h => ⟨Ext.refl _, by rw [if_pos h]⟩, fun h => ⟨Ext.refl _, by rw [if_neg (by omega)]⟩⟩
theorem abcdS (a : Nat) (h : a < 4) : ((([65, 66, 67, 68] : List UInt8).take (a + 1)).drop a).length = 1 := by
  have : ∀ a < 4, ((([65, 66, 67, 68] : List UInt8).take (a + 1)).drop a).length = 1 := by decide
  exact this a h
theorem sl1Cur_splice_ok (W : World) (b n : Nat) (many : Int) (hmany : 0 ≤ many ∧ many ≤ 1000) (w : World) (hn : n ≤ 600000000) (hc : Cur W b n w) : CurFn 77 [cV b, .int .i64 many] W b n 200 w (fun r _ => ∃ x, r = S x ∧ x.length ≤ 20) := by
  (refine callsV_of mix Tryz.func77 c_sl1Cur_splice ?_; simp only [↓vsd, vsn, gW, qd, qv, ev, pick, argE, zipE, ne_eq, eq_self, forall_const, implies_true, if_true, if_false, reduceIte, reduceCtorEq, Nat.reduceEqDiff, Nat.reduceAdd, Nat.reduceLT, ↓us_sl1Cur_splice, r_sl1Cur_splice])
  have hlt := hc.lt
  refine m_callw (by first | exact .inl rfl | exact .inr rfl) (sl1Cur_pick_ok W b n 6 (by omega) w (by omega) hc) ?_
  rintro _ w2 ⟨hc2, hg2, p, rfl, hp⟩
  have ep : (1 : Int) + (p : Nat) = ((p + 1 : Nat) : Int) := by omega
  simp only [↓vsd, vsn, gW, qd, qv, ev, pick, argE, zipE, ne_eq, eq_self, forall_const, implies_true, if_true, if_false, reduceIte, reduceCtorEq, Nat.reduceEqDiff, Nat.reduceAdd, Nat.reduceLT, ↓us_sl1Cur_splice, r_sl1Cur_splice, ep]
  refine ⟨inR_i64 (by omega), ?_⟩
  refine m_upto (p + 1) (fun j vs w' => ∃ x, vs = [S x, .int .i64 (((p + 1 : Nat) : Int) - j)] ∧ x.length ≤ 2 * j ∧ Cur W b (n + 2 + 20 * j) w' ∧ w.grownBy w' (some b)) ⟨[], by simp, by simp, hc2.mono (by omega), hg2⟩ ?_
  rintro j vs w3 hj ⟨x, rfl, hx3, hc3, hg3⟩
  by_cases hlj : j < p + 1
  · have hltI : (0 : Int) < ((p + 1 : Nat) : Int) - j := by omega
    have hltJ : ¬ ((p + 1 : Nat) : Int) - j ≤ 0 := by omega
    have ej : ((p + 1 : Nat) : Int) - j - 1 = ((p + 1 : Nat) : Int) - ((j + 1 : Nat) : Int) := by omega
    simp only [↓vsd, vsn, gW, qd, qv, ev, pick, argE, zipE, ne_eq, eq_self, forall_const, implies_true, if_true, if_false, reduceIte, reduceCtorEq, Nat.reduceEqDiff, Nat.reduceAdd, Nat.reduceLT, ↓us_sl1Cur_splice, r_sl1Cur_splice, hltI, hltJ]
    refine m_call (sl1Least_okx many 4 _) ?_
    rintro _ w4 hx4 rfl
    simp only [↓vsd, vsn, gW, qd, qv, ev, pick, argE, zipE, ne_eq, eq_self, forall_const, implies_true, if_true, if_false, reduceIte, reduceCtorEq, Nat.reduceEqDiff, Nat.reduceAdd, Nat.reduceLT, ↓us_sl1Cur_splice, r_sl1Cur_splice]
    refine m_call (sl1Most_okx 1 _ _) ?_
    rintro _ w5 hx5 rfl
    have hx35 : Ext w3 w5 := by first | exact hx4.trans hx5 | exact ud (hx4.trans hx5)
    have hc5 := hc3.ext hx35
    have hmx : ∃ m : Nat, (if (if many < 4 then many else 4) < 1 then (1 : Int) else (if many < 4 then many else 4)) = m ∧ 1 ≤ m ∧ m ≤ 4 := by
      have : (1 : Int) ≤ (if (if many < 4 then many else 4) < 1 then (1 : Int) else (if many < 4 then many else 4)) ∧ (if (if many < 4 then many else 4) < 1 then (1 : Int) else (if many < 4 then many else 4)) ≤ 4 := by
        by_cases h4 : many < 4
        · rw [if_pos h4]
          by_cases h1 : many < 1
          · rw [if_pos h1]; omega
          · rw [if_neg h1]; omega
        · rw [if_neg h4]; decide
      exact ⟨_, (Int.toNat_of_nonneg (by omega)).symm, by omega, by omega⟩
    obtain ⟨m, hm, hm1, hm4⟩ := hmx
    rw [hm]
    simp only [↓vsd, vsn, gW, qd, qv, ev, pick, argE, zipE, ne_eq, eq_self, forall_const, implies_true, if_true, if_false, reduceIte, reduceCtorEq, Nat.reduceEqDiff, Nat.reduceAdd, Nat.reduceLT, ↓us_sl1Cur_splice, r_sl1Cur_splice]
    refine m_callw (by first | exact .inl rfl | exact .inr rfl) (sl1Cur_pick_ok W b _ (m : Int) (by omega) _ (by omega) hc5) ?_
    rintro _ w6 ⟨hc6, hg6, a, rfl, ha⟩
    have ha4 : a < 4 := by omega
    have el := abcdS a ha4
    have hg06 := grown_trans (grown_trans hg3 (grown_ext (some b) hx35)) hg6
    simp only [↓vsd, vsn, gW, qd, qv, ev, pick, argE, zipE, ne_eq, eq_self, forall_const, implies_true, if_true, if_false, reduceIte, reduceCtorEq, Nat.reduceEqDiff, Nat.reduceAdd, Nat.reduceLT, ↓us_sl1Cur_splice, r_sl1Cur_splice]
    refine ⟨inR_i64 (by omega), ⟨by omega, by omega, by omega⟩, m_bsl (fun p hp => by simp only [List.mem_cons, List.not_mem_nil, or_false] at hp; rcases hp with rfl | rfl | rfl | rfl <;> rfl) ?_⟩
    rintro b7 w7 hb7 hblk7 hx7 hs7
    have hx7 : Ext w6 w7 := by first | exact hx7 | exact ud hx7 | exact ud (ud hx7)
    have hc7 := hc6.ext hx7
    simp only [↓vsd, vsn, gW, qd, qv, ev, pick, argE, zipE, ne_eq, eq_self, forall_const, implies_true, if_true, if_false, reduceIte, reduceCtorEq, Nat.reduceEqDiff, Nat.reduceAdd, Nat.reduceLT, ↓us_sl1Cur_splice, r_sl1Cur_splice]
    refine m_callw (by first | exact .inl rfl | exact .inr rfl) (sl1Cur_of_ok W b (n + 2 + 20 * j + 2) _ [[112], [112], [98], [115]] _ (by omega) (by decide) hc7 (Sq.litC _ _ fS_len hblk7 rfl rfl (by have := hg06.size; have hdd : w6.drew.heap.size = w6.heap.size := rfl; have := hlt.2; omega))) ?_
    rintro _ w8 ⟨hc8, hg8, z, rfl, hz⟩
    have hz1 : z.length = 1 := by simp only [List.mem_cons, List.not_mem_nil, or_false] at hz; rcases hz with rfl | rfl | rfl | rfl <;> rfl
    have hg08 := grown_trans hg06 (grown_trans (grown_ext (some b) hx7) hg8)
    simp only [↓vsd, vsn, gW, qd, qv, ev, pick, argE, zipE, ne_eq, eq_self, forall_const, implies_true, if_true, if_false, reduceIte, reduceCtorEq, Nat.reduceEqDiff, Nat.reduceAdd, Nat.reduceLT, ↓us_sl1Cur_splice, r_sl1Cur_splice, ej]
    have hxl : (x ++ (List.drop a (List.take (a + 1) [65, 66, 67, 68]) ++ z)).length ≤ 2 * (j + 1) := by rw [List.length_append, List.length_append, el, hz1]; omega
    exact ⟨by omega, by have := hxl; rw [List.length_append] at this; omega, inR_i64 (by omega), UpTo.next hlj ⟨_, rfl, hxl, hc8.mono (by omega), hg08⟩⟩
  · obtain rfl : j = p + 1 := by omega
    have hltI : ¬ (0 : Int) < ((p + 1 : Nat) : Int) - (p + 1 : Nat) := by omega
    simp only [↓vsd, vsn, gW, qd, qv, ev, pick, argE, zipE, ne_eq, eq_self, forall_const, implies_true, if_true, if_false, reduceIte, reduceCtorEq, Nat.reduceEqDiff, Nat.reduceAdd, Nat.reduceLT, ↓us_sl1Cur_splice, r_sl1Cur_splice, hltI]
    refine m_callw (by first | exact .inl rfl | exact .inr rfl) (sl1Cur_one_ok W b _ 12 (by omega) w3 (by omega) hc3) ?_
    rintro _ w4 ⟨hc4, hg4, z, rfl⟩
    have hg04 := grown_trans hg3 hg4
    cases z
    · simp only [↓vsd, vsn, gW, qd, qv, ev, pick, argE, zipE, ne_eq, eq_self, forall_const, implies_true, if_true, if_false, reduceIte, reduceCtorEq, Nat.reduceEqDiff, Nat.reduceAdd, Nat.reduceLT, ↓us_sl1Cur_splice, r_sl1Cur_splice]
      exact ⟨hc4.mono (by omega), hg04, x, rfl, by omega⟩
    · simp only [↓vsd, vsn, gW, qd, qv, ev, pick, argE, zipE, ne_eq, eq_self, forall_const, implies_true, if_true, if_false, reduceIte, reduceCtorEq, Nat.reduceEqDiff, Nat.reduceAdd, Nat.reduceLT, ↓us_sl1Cur_splice, r_sl1Cur_splice]
      refine m_callw (by first | exact .inl rfl | exact .inr rfl) (sl1Cur_spoilt_ok W b _ x [65, 66, 68, 69, 112, 98, 115, 120] w4 (by omega) (by omega) (by decide) hc4) ?_
      rintro _ w5 ⟨hc5, hg5, z, rfl, hz⟩
      simp only [↓vsd, vsn, gW, qd, qv, ev, pick, argE, zipE, ne_eq, eq_self, forall_const, implies_true, if_true, if_false, reduceIte, reduceCtorEq, Nat.reduceEqDiff, Nat.reduceAdd, Nat.reduceLT, ↓us_sl1Cur_splice, r_sl1Cur_splice]
      exact ⟨hc5.mono (by omega), grown_trans hg04 hg5, z, rfl, by omega⟩
theorem change_len8 {n : Int} {c : Bs} (h : IsChange n c) : c.length ≤ 6 := by have := h.len; have := h.1; omega
/-- Some methods, small, perhaps none or one of them spoilt. -/
def AnyMs (ms : List MS) (css : List (List Bs)) : Prop := ms.length ≤ 4 ∧ ∀ i < ms.length, (ms.getD i MS.nil).nm.length ≤ 100 ∧ (css.getD i []).length ≤ 60 ∧ ∀ c ∈ css.getD i [], c.length ≤ 8
theorem sDrawGoodSpliced_ok (v : Value) (code : List UInt8) (hl : code.length ≤ 1048576) (w : World) (h : Sq fU 1 w v code) : Fn 130 [v] w (fun r w' => ∃ y p q ms css, r = .tuple ⟨[y, kV p q]⟩ ∧ MsH w.heap.size w' y ms css ∧ AnyMs ms css ∧ p.length ≤ 8 ∧ q.length ≤ 8) := by
  (refine callsV_of mix Tryz.func130 c_sDrawGoodSpliced ?_; simp only [↓vsd, vsn, gW, qd, qv, ev, pick, argE, zipE, ne_eq, eq_self, forall_const, implies_true, if_true, if_false, reduceIte, reduceCtorEq, Nat.reduceEqDiff, Nat.reduceAdd, Nat.reduceLT, ↓us_sDrawGoodSpliced, r_sDrawGoodSpliced])
  refine m_al ?_
  rintro b0 w0 hb0 hblk0 hx0 hs0
  have h0 := h.ext hx0
  simp only [↓vsd, vsn, gW, qd, qv, ev, pick, argE, zipE, ne_eq, eq_self, forall_const, implies_true, if_true, if_false, reduceIte, reduceCtorEq, Nat.reduceEqDiff, Nat.reduceAdd, Nat.reduceLT, ↓us_sDrawGoodSpliced, r_sDrawGoodSpliced, h0.facts]
  refine m_al ?_
  rintro b w1 hb hblk hx1 hs1
  have hc := Cur.new h0 hl hb hblk hx1
  have hlt := hc.lt
  simp only [↓vsd, vsn, gW, qd, qv, ev, pick, argE, zipE, ne_eq, eq_self, forall_const, implies_true, if_true, if_false, reduceIte, reduceCtorEq, Nat.reduceEqDiff, Nat.reduceAdd, Nat.reduceLT, ↓us_sDrawGoodSpliced, r_sDrawGoodSpliced]
  refine m_callw (.inl rfl) (sl1Cur_spliced_ok w0 b _ w1 (by omega) hc) ?_
  rintro y w2 ⟨hc2, hg2, ms, css, hM2, hO⟩
  have hb02 := (hblk0.ext hx1).same (hg2.block b0 (hblk0.ext hx1).lt (fun e => by have := Option.some.inj e; omega))
  have hms := hO.1
  have q2 := hM2.sq.1.facts
  have m2 := hM2.sq.m0 (by omega)
  have z2 : (0 : Int) < ms.length := by omega
  obtain ⟨hm0, _⟩ := hO.2 0 (by omega)
  have hnm0 : (ms.getD 0 MS.nil).nm.length ≤ 11 := by have := hm0.1.2; omega
  simp only [↓vsd, vsn, gW, qd, qv, ev, pick, argE, zipE, ne_eq, eq_self, forall_const, implies_true, if_true, if_false, reduceIte, reduceCtorEq, Nat.reduceEqDiff, Nat.reduceAdd, Nat.reduceLT, ↓us_sDrawGoodSpliced, r_sDrawGoodSpliced, q2, m2, z2]
  refine ⟨by decide, ?_⟩
  refine m_callw (by first | exact .inl rfl | exact .inr rfl) (sl1Cur_anyCalls_ok w0 b _ _ (ms.getD 0 MS.nil).st _ (css.getD 0 []) hnm0 (by have := hm0.2.2.1; omega) (fun c hc => by have := change_len8 (hm0.2.2.2 c hc); omega) _ (by omega) hc2 (fun w' hg => (hM2.keep hg (by omega)).sq.2.2 0 (by omega))) ?_
  rintro _ w3 ⟨hc3, hg3, p, q, rfl, hp, hq⟩
  have hM3 := hM2.keep hg3 (by omega)
  have hb03 := hb02.same (hg3.block b0 hb02.lt (fun e => by have := Option.some.inj e; omega))
  simp only [↓vsd, vsn, gW, qd, qv, ev, pick, argE, zipE, ne_eq, eq_self, forall_const, implies_true, if_true, if_false, reduceIte, reduceCtorEq, Nat.reduceEqDiff, Nat.reduceAdd, Nat.reduceLT, ↓us_sDrawGoodSpliced, r_sDrawGoodSpliced]
  refine m_al ?_
  rintro b6 w6 hb6 hblk6 hx6 hs6
  simp only [↓vsd, vsn, gW, qd, qv, ev, pick, argE, zipE, ne_eq, eq_self, forall_const, implies_true, if_true, if_false, reduceIte, reduceCtorEq, Nat.reduceEqDiff, Nat.reduceAdd, Nat.reduceLT, ↓us_sDrawGoodSpliced, r_sDrawGoodSpliced]
  refine m_st hblk6 rfl (Nat.le_refl 2) (fQ_one p q) ?_
  rintro w4 hblk4 hu4
  have h4 : Blk w4 b6 (fQ p q) 27 := hblk4
  have hx34 : Ext w3 w4 := hu4.below hx6 (by omega)
  have hM4 := hM3.ext hx34
  have hc4 := hc3.ext hx34
  have hb04 := hb03.ext hx34
  have hlb6 := hb03.lt
  simp only [↓vsd, vsn, gW, qd, qv, ev, pick, argE, zipE, ne_eq, eq_self, forall_const, implies_true, if_true, if_false, reduceIte, reduceCtorEq, Nat.reduceEqDiff, Nat.reduceAdd, Nat.reduceLT, ↓us_sDrawGoodSpliced, r_sDrawGoodSpliced]
  refine m_callw (by first | exact .inl rfl | exact .inr rfl) (sl1Cur_pick_ok w0 b _ 12 (by omega) w4 (by omega) hc4) ?_
  rintro _ w5 ⟨hc5, hg5, z, rfl, hz⟩
  have hlb3 := hc3.lt
  have h5 := h4.same (hg5.block b6 h4.lt (fun e => by have := Option.some.inj e; omega))
  have hb05 := hb04.same (hg5.block b0 hb04.lt (fun e => by have := Option.some.inj e; omega))
  have hM5 := hM4.keep hg5 (by omega)
  have hs0w : w.heap.size ≤ w1.heap.size := by omega
  have hd5 : Ext w5 w5.drew := dr (Ext.refl _)
  have hM5d := hM5.ext hd5
  have hc5d := hc5.ext hd5
  have hany : ∀ i < ms.length, (ms.getD i MS.nil).nm.length ≤ 100 ∧ (css.getD i []).length ≤ 60 ∧ ∀ c ∈ css.getD i [], c.length ≤ 8 := fun i hi => by
    obtain ⟨hmi, _⟩ := hO.2 i hi
    exact ⟨by have := hmi.1.2; omega, by have := hmi.2.2.1; omega, fun c hc => by have := change_len8 (hmi.2.2.2 c hc); omega⟩
  by_cases z0 : z = 0
  · have z0I : (z : Int) = 0 := by omega
    simp only [↓vsd, vsn, gW, qd, qv, ev, pick, argE, zipE, ne_eq, eq_self, forall_const, implies_true, if_true, if_false, reduceIte, reduceCtorEq, Nat.reduceEqDiff, Nat.reduceAdd, Nat.reduceLT, ↓us_sDrawGoodSpliced, r_sDrawGoodSpliced, z0I]
    refine m_callw (by first | exact .inl rfl | exact .inr rfl) (sl1Cur_anyMethod_ok w0 b _ w5 (by omega) hc5) ?_
    rintro _ w7 ⟨hc7, hg7, nm, st, x, cs, rfl, ho7, hnm7, hst7, hcs7, hc87⟩
    obtain ⟨sv, rfl⟩ := ho7.sq.sv
    have hM7 := hM5.keep hg7 (by omega)
    have h7 := h5.same (hg7.block b6 h5.lt (fun e => by have := Option.some.inj e; omega))
    have hb07 := hb05.same (hg7.block b0 hb05.lt (fun e => by have := Option.some.inj e; omega))
    simp only [↓vsd, vsn, gW, qd, qv, ev, pick, argE, zipE, ne_eq, eq_self, forall_const, implies_true, if_true, if_false, reduceIte, reduceCtorEq, Nat.reduceEqDiff, Nat.reduceAdd, Nat.reduceLT, ↓us_sDrawGoodSpliced, r_sDrawGoodSpliced]
    refine m_bsl (fun p hp => by simp only [List.mem_cons, List.not_mem_nil, or_false] at hp; rw [hp]; rfl) ?_
    rintro b8 w8 hb8 hblk8 hx8 hs8
    have hx8 : Ext w7 w8 := by first | exact hx8 | exact ud hx8 | exact ud (ud hx8)
    have hlit : Own fMS 3 25 0 w8 (.slice (some ⟨b8, 0, none⟩) 1 1) [⟨nm, st, sv⟩] := Own.lit1 fMS_len hblk8 (by rfl) (Nat.zero_le _)
    have hM8 := hM7.ext hx8
    have hc8 := hc7.ext hx8
    have hw2 := hg2.size
    have hw3 := hg3.size
    have hw34 := hx34.size
    have hw5 := hg5.size
    have hw7 := hg7.size
    have hw8 := hx8.size
    simp only [↓vsd, vsn, gW, qd, qv, ev, pick, argE, zipE, ne_eq, eq_self, forall_const, implies_true, if_true, if_false, reduceIte, reduceCtorEq, Nat.reduceEqDiff, Nat.reduceAdd, Nat.reduceLT, ↓us_sDrawGoodSpliced, r_sDrawGoodSpliced]
    refine m_app2 hM8.own hlit.sq fMS_one (by decide) (by rw [List.length_singleton]; omega) (by decide) (by omega) ?_
    rintro y9 w9 ho9 hg9 hn9
    have hM9 := hM8.app ho9 hg9 hn9 ((ho7.ext hx8).mono (by omega)) (fun c hc e => by have h1 := (ho7.bound c hc).1; have h2 := hM5.own.lt c e; omega)
    have hc9 := hc8.keep hg9 (fun c hc => by have := (hM8.own.bound c hc).1; omega)
    have h9 := (h7.ext hx8).same (hg9.block b6 (h7.ext hx8).lt (fun e => by have := (hM8.own.bound b6 e.symm).1; have := hM2.own.lt b6 e.symm; omega))
    have hb09 := (hb07.ext hx8).same (hg9.block b0 (hb07.ext hx8).lt (fun e => by have := (hM8.own.bound b0 e.symm).1; omega))
    simp only [↓vsd, vsn, gW, qd, qv, ev, pick, argE, zipE, ne_eq, eq_self, forall_const, implies_true, if_true, if_false, reduceIte, reduceCtorEq, Nat.reduceEqDiff, Nat.reduceAdd, Nat.reduceLT, ↓us_sDrawGoodSpliced, r_sDrawGoodSpliced, h9.facts, fQg]
    refine m_st hb09 rfl (Nat.le_refl 2) (fQ_one p q) ?_
    rintro w10 hblk10 hu10
    have h10 : Blk w10 b0 (fQ p q) 27 := hblk10
    simp only [↓vsd, vsn, gW, qd, qv, ev, pick, argE, zipE, ne_eq, eq_self, forall_const, implies_true, if_true, if_false, reduceIte, reduceCtorEq, Nat.reduceEqDiff, Nat.reduceAdd, Nat.reduceLT, ↓us_sDrawGoodSpliced, r_sDrawGoodSpliced, h10.facts, fQg]
    have hd9 : Ext w9 w9.drew := dr (Ext.refl _)
    have hM9d := hM9.ext hd9
    have hc9d := hc9.ext hd9
    refine ⟨hu10.below (hx0.trans (by first | exact hc9.base | exact hc9d.base)) (by omega), y9, p, q, _, _, rfl, (by first | exact (hM9.upd hu10 (hM9.own.away' (by omega)) (fun i hi => (hM9.all i hi).1.away' (by omega))).mono hs0w | exact (hM9d.upd hu10 (hM9d.own.away' (by omega)) (fun i hi => (hM9d.all i hi).1.away' (by omega))).mono hs0w), ⟨by rw [List.length_append, List.length_singleton]; omega, fun i hi => ?_⟩, hp, hq⟩
    have hl5' := hM8.len
    rw [List.length_append, List.length_singleton] at hi
    by_cases hqe : i < ms.length
    · have e1 : (ms ++ [(⟨nm, st, sv⟩ : MS)]).getD i MS.nil = ms.getD i MS.nil := by rw [List.getD_eq_getElem?_getD, List.getElem?_append_left hqe, List.getD_eq_getElem?_getD]
      have e2 : (css ++ [cs]).getD i [] = css.getD i [] := by rw [List.getD_eq_getElem?_getD, List.getElem?_append_left (by omega), List.getD_eq_getElem?_getD]
      rw [e1, e2]
      exact hany i hqe
    · obtain rfl : i = ms.length := by omega
      have e1 : (ms ++ [(⟨nm, st, sv⟩ : MS)]).getD ms.length MS.nil = ⟨nm, st, sv⟩ := by rw [List.getD_eq_getElem?_getD, List.getElem?_append_right (Nat.le_refl _)]; simp
      have e2 : (css ++ [cs]).getD ms.length [] = cs := by rw [← hl5', List.getD_eq_getElem?_getD, List.getElem?_append_right (Nat.le_refl _)]; simp
      rw [e1, e2]
      exact ⟨Nat.le_trans hnm7 (by decide), hcs7, hc87⟩
  · by_cases z1 : z = 1
    · have z0I : ¬ (1 : Int) = 0 := by omega
      have z1I : (z : Int) = 1 := by omega
      simp only [↓vsd, vsn, gW, qd, qv, ev, pick, argE, zipE, ne_eq, eq_self, forall_const, implies_true, if_true, if_false, reduceIte, reduceCtorEq, Nat.reduceEqDiff, Nat.reduceAdd, Nat.reduceLT, ↓us_sDrawGoodSpliced, r_sDrawGoodSpliced, z1I, z0I, h5.facts, fQg]
      refine m_st hb05 rfl (Nat.le_refl 2) (fQ_one p q) ?_
      rintro w9 hblk9 hu9
      have h9 : Blk w9 b0 (fQ p q) 27 := hblk9
      simp only [↓vsd, vsn, gW, qd, qv, ev, pick, argE, zipE, ne_eq, eq_self, forall_const, implies_true, if_true, if_false, reduceIte, reduceCtorEq, Nat.reduceEqDiff, Nat.reduceAdd, Nat.reduceLT, ↓us_sDrawGoodSpliced, r_sDrawGoodSpliced, h9.facts, fQg]
      exact ⟨hu9.below (hx0.trans hc5d.base) (by omega), _, p, q, [], [], rfl, ⟨Own.nil fMS_len, rfl, fun i hi => by simp at hi⟩, ⟨by simp, fun i hi => by simp at hi⟩, hp, hq⟩
    · have z0I : ¬ (z : Int) = 0 := by omega
      have z1I : ¬ (z : Int) = 1 := by omega
      simp only [↓vsd, vsn, gW, qd, qv, ev, pick, argE, zipE, ne_eq, eq_self, forall_const, implies_true, if_true, if_false, reduceIte, reduceCtorEq, Nat.reduceEqDiff, Nat.reduceAdd, Nat.reduceLT, ↓us_sDrawGoodSpliced, r_sDrawGoodSpliced, z0I, z1I, h5.facts, fQg]
      refine m_st hb05 rfl (Nat.le_refl 2) (fQ_one p q) ?_
      rintro w9 hblk9 hu9
      have h9 : Blk w9 b0 (fQ p q) 27 := hblk9
      simp only [↓vsd, vsn, gW, qd, qv, ev, pick, argE, zipE, ne_eq, eq_self, forall_const, implies_true, if_true, if_false, reduceIte, reduceCtorEq, Nat.reduceEqDiff, Nat.reduceAdd, Nat.reduceLT, ↓us_sDrawGoodSpliced, r_sDrawGoodSpliced, h9.facts, fQg]
      exact ⟨hu9.below (hx0.trans hc5d.base) (by omega), y, p, q, ms, css, rfl, (hM5d.upd hu9 (hM5d.own.away' (by omega)) (fun i hi => (hM5d.all i hi).1.away' (by omega))).mono hs0w, ⟨by omega, hany⟩, hp, hq⟩
theorem sDrawGoodSplice_ok (v : Value) (code : List UInt8) (hl : code.length ≤ 1048576) (w : World) (h : Sq fU 1 w v code) : Fn 81 [v] w (fun r w' => ∃ y t ms css, r = .tuple ⟨[y, S t]⟩ ∧ SqM w' y ms css ∧ AnyMs ms css ∧ t.length ≤ 20) := by
  (refine callsV_of mix Tryz.func81 c_sDrawGoodSplice ?_; simp only [↓vsd, vsn, gW, qd, qv, ev, pick, argE, zipE, ne_eq, eq_self, forall_const, implies_true, if_true, if_false, reduceIte, reduceCtorEq, Nat.reduceEqDiff, Nat.reduceAdd, Nat.reduceLT, ↓us_sDrawGoodSplice, r_sDrawGoodSplice])
  refine m_call (sDrawGoodSpliced_ok v code hl _ h) ?_
  rintro _ w1 hx1 ⟨y, p, q, ms, css, rfl, hM1, hA, hp, hq⟩
  simp only [↓vsd, vsn, gW, qd, qv, ev, pick, argE, zipE, ne_eq, eq_self, forall_const, implies_true, if_true, if_false, reduceIte, reduceCtorEq, Nat.reduceEqDiff, Nat.reduceAdd, Nat.reduceLT, ↓us_sDrawGoodSplice, r_sDrawGoodSplice]
  refine m_al ?_
  rintro b2 w2 hb2 hblk2 hx2 hs2
  simp only [↓vsd, vsn, gW, qd, qv, ev, pick, argE, zipE, ne_eq, eq_self, forall_const, implies_true, if_true, if_false, reduceIte, reduceCtorEq, Nat.reduceEqDiff, Nat.reduceAdd, Nat.reduceLT, ↓us_sDrawGoodSplice, r_sDrawGoodSplice]
  refine m_st hblk2 rfl (Nat.le_refl 2) (fQ_one p q) ?_
  rintro w3 hblk3 hu3
  have hx13 : Ext w1 w3 := hu3.below hx2 (by omega)
  have hx03 := hx1.trans hx13
  have h3 := h.ext hx03
  have hM3 := hM1.ext hx13
  obtain ⟨k1, k2⟩ := h3.tail .i64 (code.length / 2) (by omega)
  have hd2 : ((code.length : Nat) : Int).tdiv 2 = ((code.length / 2 : Nat) : Int) := rfl
  have h3f := h3.facts
  have k2f := k2.facts
  have hA4 := hA.1
  simp only [↓vsd, vsn, gW, qd, qv, ev, pick, argE, zipE, ne_eq, eq_self, forall_const, implies_true, if_true, if_false, reduceIte, reduceCtorEq, Nat.reduceEqDiff, Nat.reduceAdd, Nat.reduceLT, ↓us_sDrawGoodSplice, r_sDrawGoodSplice, h3f, hd2, k1, k2f]
  refine ⟨⟨by decide, inR_i64 (by omega)⟩, m_al ?_⟩
  rintro b w4 hb hblk4 hx4 hs4
  have hc := Cur.new k2 (by rw [List.length_drop]; omega) hb hblk4 hx4
  have hM4 := (hM3.ext hx4).sq.1.facts
  simp only [↓vsd, vsn, gW, qd, qv, ev, pick, argE, zipE, ne_eq, eq_self, forall_const, implies_true, if_true, if_false, reduceIte, reduceCtorEq, Nat.reduceEqDiff, Nat.reduceAdd, Nat.reduceLT, ↓us_sDrawGoodSplice, r_sDrawGoodSplice, hM4]
  refine m_callw (by first | exact .inl rfl | exact .inr rfl) (sl1Cur_pick_ok w3 b _ 12 (by omega) w4 (by omega) hc) ?_
  rintro _ w5 ⟨hc5, hg5, z, rfl, hz⟩
  have e11 : ((z : Nat) : Int).tdiv 11 = ((z / 11 : Nat) : Int) := rfl
  simp only [↓vsd, vsn, gW, qd, qv, ev, pick, argE, zipE, ne_eq, eq_self, forall_const, implies_true, if_true, if_false, reduceIte, reduceCtorEq, Nat.reduceEqDiff, Nat.reduceAdd, Nat.reduceLT, ↓us_sDrawGoodSplice, r_sDrawGoodSplice, e11]
  refine ⟨⟨by decide, inR_i64 (by omega)⟩, inR_i64 (by omega), ?_⟩
  refine m_callw (by first | exact .inl rfl | exact .inr rfl) (sl1Cur_splice_ok w3 b (0 + 2) _ (by omega) _ (by omega) (by first | exact hc5 | exact hc5.ext (dr (Ext.refl _)))) ?_
  rintro _ w6 ⟨hc6, hg6, x, rfl, hx⟩
  simp only [↓vsd, vsn, gW, qd, qv, ev, pick, argE, zipE, ne_eq, eq_self, forall_const, implies_true, if_true, if_false, reduceIte, reduceCtorEq, Nat.reduceEqDiff, Nat.reduceAdd, Nat.reduceLT, ↓us_sDrawGoodSplice, r_sDrawGoodSplice]
  exact ⟨hx03.trans hc6.base, y, x, ms, css, rfl, (hM3.sq.ext hc6.base), hA, hx⟩
theorem sDrawBalanceOf_ok (v : Value) (code : List UInt8) (hl : code.length ≤ 1048576) (w : World) (h : Sq fU 1 w v code) : Fn 26 [v] w (fun r w' => ∃ y t ms css, r = .tuple ⟨[y, S t]⟩ ∧ SqM w' y ms css ∧ AnyMs ms css ∧ t.length ≤ 20) := by
  (refine callsV_of mix Tryz.func26 c_sDrawBalanceOf ?_; simp only [↓vsd, vsn, gW, qd, qv, ev, pick, argE, zipE, ne_eq, eq_self, forall_const, implies_true, if_true, if_false, reduceIte, reduceCtorEq, Nat.reduceEqDiff, Nat.reduceAdd, Nat.reduceLT, ↓us_sDrawBalanceOf, r_sDrawBalanceOf])
  refine m_call (sDrawGoodSplice_ok v code hl _ h) ?_
  rintro _ w1 hx1 ⟨y, t, ms, css, rfl, hM1, hA, ht⟩
  simp only [↓vsd, vsn, gW, qd, qv, ev, pick, argE, zipE, ne_eq, eq_self, forall_const, implies_true, if_true, if_false, reduceIte, reduceCtorEq, Nat.reduceEqDiff, Nat.reduceAdd, Nat.reduceLT, ↓us_sDrawBalanceOf, r_sDrawBalanceOf]
  exact ⟨hx1, y, t, ms, css, rfl, hM1, hA, ht⟩
theorem sDrawSwitchesIn_ok (v : Value) (code : List UInt8) (hl : code.length ≤ 1048576) (w : World) (h : Sq fU 1 w v code) : Fn 23 [v] w (fun r _ => ∃ t, r = S t ∧ t.length ≤ 20) := by
  (refine callsV_of mix Tryz.func23 c_sDrawSwitchesIn ?_; simp only [↓vsd, vsn, gW, qd, qv, ev, pick, argE, zipE, ne_eq, eq_self, forall_const, implies_true, if_true, if_false, reduceIte, reduceCtorEq, Nat.reduceEqDiff, Nat.reduceAdd, Nat.reduceLT, ↓us_sDrawSwitchesIn, r_sDrawSwitchesIn])
  simp only [↓vsd, vsn, gW, qd, qv, ev, pick, argE, zipE, ne_eq, eq_self, forall_const, implies_true, if_true, if_false, reduceIte, reduceCtorEq, Nat.reduceEqDiff, Nat.reduceAdd, Nat.reduceLT, ↓us_sDrawSwitchesIn, r_sDrawSwitchesIn, h.facts]
  refine m_al ?_
  rintro b w1 hb hblk hx1 hs1
  have hc := Cur.new h hl hb hblk hx1
  simp only [↓vsd, vsn, gW, qd, qv, ev, pick, argE, zipE, ne_eq, eq_self, forall_const, implies_true, if_true, if_false, reduceIte, reduceCtorEq, Nat.reduceEqDiff, Nat.reduceAdd, Nat.reduceLT, ↓us_sDrawSwitchesIn, r_sDrawSwitchesIn]
  refine m_callw (by first | exact .inl rfl | exact .inr rfl) (sl1Cur_splice_ok w b _ 4 (by decide) _ (by omega) hc) ?_
  rintro _ w2 ⟨hc2, hg2, x, rfl, hx⟩
  simp only [↓vsd, vsn, gW, qd, qv, ev, pick, argE, zipE, ne_eq, eq_self, forall_const, implies_true, if_true, if_false, reduceIte, reduceCtorEq, Nat.reduceEqDiff, Nat.reduceAdd, Nat.reduceLT, ↓us_sDrawSwitchesIn, r_sDrawSwitchesIn]
  exact ⟨hc2.base, x, rfl, hx⟩
end Go.Proofs.YthopbkemkfjebaaGreat
