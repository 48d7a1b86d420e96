/-
  Methods that are spliced, and splices: what is valid, of both sides.
  Conditions: none.
-/
import Derived.Test.YthopbkemkfjebaaGreatKA17
import Derived.Test.YthopbkemkfjebaaGreatKVn
set_option linter.unusedSimpArgs false
set_option linter.unusedVariables false
set_option linter.defProp false
namespace Go.Proofs.YthopbkemkfjebaaGreat
open Go Go.RowKit
section
variable (P : Program) (k : KT) (e : Env) (w : World)
abbrev b43_1 : X := (.cond (.t 10) (.seq (.reg [4] (.c (.q 4 [] (.mv (.c (.bool false)))) .nil)) .ret) .skip)
def t43_1 := b43_1
theorem u43_1 : vcK P t43_1 k e w = vcK P b43_1 k e w := rfl
abbrev b43_2 : X := (.cond (.t 28) (.seq (.reg [4] (.c (.q 4 [] (.mv (.c (.bool false)))) .nil)) .ret) .skip)
def t43_2 := b43_2
theorem u43_2 : vcK P t43_2 k e w = vcK P b43_2 k e w := rfl
abbrev b43_3 : X := (.seq (.drw [0, 3, 11, 12, 13, 28] (.c (.q 17 [] (.lda 3 (.t 6))) (.c (.e (some 18) [] (.call false 63 [(.t 17)])) (.c (.q 19 [] (.not (.t 18))) (.c (.q 20 [] (.mv (.t 19))) (.c (.q 21 [(20, false)] (.fa 1 (.t 6))) (.c (.q 22 [(20, false)] (.ld (.t 21))) (.c (.q 23 [(20, false)] (.mv (.t 0))) (.c (.q 24 [(20, false)] (.ia 3 (.t 23) (.c (.int .i64 0)))) (.c (.q 25 [(20, false)] (.fa 1 (.t 24))) (.c (.q 26 [(20, false)] (.ld (.t 25))) (.c (.q 27 [(20, false)] (.bin .neq (.t 22) (.t 26))) (.c (.q 28 [] (.pick (.t 20) (.c (.bool true)) (.t 27))) .nil))))))))))))) t43_2)
def t43_3 := b43_3
theorem u43_3 : vcK P t43_3 k e w = vcK P b43_3 k e w := rfl
abbrev b43_4 : X := (.reg [0, 3, 11, 12, 13] (.c (.q 29 [] (.bin .add (.t 13) (.c (.int .i64 1)))) (.c (.q 13 [] (.mv (.t 29))) .nil)))
def t43_4 := b43_4
theorem u43_4 : vcK P t43_4 k e w = vcK P b43_4 k e w := rfl
abbrev b43_5 : X := (.seq (.blk 1 (.seq (.reg [0, 3, 6, 11, 12, 13] (.c (.q 15 [] (.ia 3 (.t 11) (.t 13))) (.c (.q 16 [] (.lda 3 (.t 15))) (.c (.e (some 6) [] (.al 25 [(S []), (.int .i64 0), (.slice none 0 0)])) (.c (.e none [] (.st 3 (.t 6) (.t 16))) .nil))))) t43_3)) t43_4)
def t43_5 := b43_5
theorem u43_5 : vcK P t43_5 k e w = vcK P b43_5 k e w := rfl
abbrev b43_6 : X := (.seq (.cond (.t 14) .skip (.exit 0)) t43_5)
def t43_6 := b43_6
theorem u43_6 : vcK P t43_6 k e w = vcK P b43_6 k e w := rfl
abbrev b43_7 : X := (.seq (.reg [0, 3, 11, 12, 13, 14] (.c (.q 14 [] (.bin .lss (.t 13) (.t 12))) .nil)) t43_6)
def t43_7 := b43_7
theorem u43_7 : vcK P t43_7 k e w = vcK P b43_7 k e w := rfl
abbrev b43_8 : X := (.blk 0 (.loop [13] [0, 3, 11, 12] t43_7))
def t43_8 := b43_8
theorem u43_8 : vcK P t43_8 k e w = vcK P b43_8 k e w := rfl
abbrev b43_9 : X := (.seq (.drw [4] (.c (.q 30 [] (.mv (.t 0))) (.c (.q 31 [] (.ia 3 (.t 30) (.c (.int .i64 0)))) (.c (.q 32 [] (.lda 3 (.t 31))) (.c (.q 33 [] (.lda 2 (.t 3))) (.c (.e (some 34) [] (.call false 101 [(.t 32), (.t 33)])) (.c (.q 4 [] (.mv (.t 34))) .nil))))))) .ret)
def t43_9 := b43_9
theorem u43_9 : vcK P t43_9 k e w = vcK P b43_9 k e w := rfl
abbrev b43_10 : X := (.seq (.seq (.reg [0, 3, 11, 12, 13] (.c (.q 11 [] (.mv (.t 0))) (.c (.q 12 [] (.lens (.t 11))) (.c (.q 13 [] (.mv (.c (.int .i64 0)))) .nil)))) t43_8) t43_9)
def t43_10 := b43_10
theorem u43_10 : vcK P t43_10 k e w = vcK P b43_10 k e w := rfl
abbrev b43_11 : X := (.seq (.seq (.reg [0, 3, 10] (.c (.q 7 [] (.mv (.t 0))) (.c (.q 8 [] (.lens (.t 7))) (.c (.e (some 9) [] (.call false 75 [(.t 8), (.c (.int .i64 1)), (.c (.int .i64 4))])) (.c (.q 10 [] (.not (.t 9))) .nil))))) t43_1) t43_10)
def t43_11 := b43_11
theorem u43_11 : vcK P t43_11 k e w = vcK P b43_11 k e w := rfl
abbrev b43_0 : X := (.seq (.reg [0, 3] (.c (.e (some 3) [] (.box 27 (.t 1))) (.c (.q 4 [] (.mv (.c (.bool false)))) .nil))) t43_11)
def x_iGoodSpliced := b43_0
theorem u43_0 : vcK P x_iGoodSpliced k e w = vcK P b43_0 k e w := rfl
def r_iGoodSpliced : List XO := [(.mv (.t 4))]
theorem c_iGoodSpliced : convF Tryz.prog [56, 58, 59, 60, 61, 62, 72, 73, 77, 97, 98, 109, 110, 111, 112, 115, 128, 136] Tryz.f43 [([0, 3], []), ([0, 3, 10], []), ([4], []), ([0, 3, 11, 12, 13], []), ([13], [0, 3, 11, 12]), ([0, 3, 11, 12, 13, 14], []), ([0, 3, 6, 11, 12, 13], []), ([0, 3, 11, 12, 13, 28], []), ([4], []), ([0, 3, 11, 12, 13], []), ([4], [])] = some (x_iGoodSpliced, r_iGoodSpliced) := by kernel_rfl
def us_iGoodSpliced :=  (aI (aI (aI @u43_0 (aI @u43_1 @u43_2)) (aI @u43_3 (aI @u43_4 @u43_5))) (aI (aI @u43_6 (aI @u43_7 @u43_8)) (aI @u43_9 (aI @u43_10 @u43_11))))
abbrev b78_1 : X := (.cond (.t 21) (.seq (.reg [4] (.c (.q 4 [] (.mv (.c (.bool false)))) .nil)) .ret) .skip)
def t78_1 := b78_1
theorem u78_1 : vcK P t78_1 k e w = vcK P b78_1 k e w := rfl
abbrev b78_2 : X := (.cond (.t 25) .skip (.exit 0))
def t78_2 := b78_2
theorem u78_2 : vcK P t78_2 k e w = vcK P b78_2 k e w := rfl
abbrev b78_3 : X := (.cond (.t 50) (.seq (.reg [4] (.c (.q 4 [] (.mv (.c (.bool false)))) .nil)) .ret) .skip)
def t78_3 := b78_3
theorem u78_3 : vcK P t78_3 k e w = vcK P b78_3 k e w := rfl
abbrev b78_4 : X := (.reg [0, 1, 5] (.c (.q 26 [] (.mv (.t 5))) (.c (.q 27 [] (.bin .add (.t 26) (.c (.int .i64 2)))) (.c (.q 5 [] (.mv (.t 27))) .nil))))
def t78_4 := b78_4
theorem u78_4 : vcK P t78_4 k e w = vcK P b78_4 k e w := rfl
abbrev b78_5 : X := (.seq (.blk 1 (.seq (.reg [0, 1, 5, 50] (.c (.q 28 [] (.mv (.t 1))) (.c (.q 29 [] (.mv (.t 5))) (.c (.q 30 [] (.idx (.t 28) (.t 29))) (.c (.q 31 [] (.bin .lss (.t 30) (.c (.int .u8 65)))) (.c (.q 32 [] (.mv (.t 31))) (.c (.q 33 [(32, false)] (.mv (.t 1))) (.c (.q 34 [(32, false)] (.mv (.t 5))) (.c (.q 35 [(32, false)] (.idx (.t 33) (.t 34))) (.c (.q 36 [(32, false)] (.bin .sub (.t 35) (.c (.int .u8 65)))) (.c (.q 37 [(32, false)] (.cvi .i64 (.t 36))) (.c (.q 38 [(32, false)] (.mv (.t 0))) (.c (.q 39 [(32, false)] (.bin .geq (.t 37) (.t 38))) (.c (.q 40 [] (.pick (.t 32) (.c (.bool true)) (.t 39))) (.c (.q 41 [] (.mv (.t 40))) (.c (.q 42 [(41, false)] (.mv (.t 1))) (.c (.q 43 [(41, false)] (.mv (.t 5))) (.c (.q 44 [(41, false)] (.bin .add (.t 43) (.c (.int .i64 1)))) (.c (.q 45 [(41, false)] (.mv (.t 5))) (.c (.q 46 [(41, false)] (.bin .add (.t 45) (.c (.int .i64 2)))) (.c (.q 47 [(41, false)] (.sub (.t 42) (some (.t 44)) (some (.t 46)))) (.c (.e (some 48) [(41, false)] (.call false 129 [(.t 47)])) (.c (.q 49 [(41, false)] (.not (.t 48))) (.c (.q 50 [] (.pick (.t 41) (.c (.bool true)) (.t 49))) .nil)))))))))))))))))))))))) t78_3)) t78_4)
def t78_5 := b78_5
theorem u78_5 : vcK P t78_5 k e w = vcK P b78_5 k e w := rfl
abbrev b78_6 : X := (.seq (.seq (.reg [0, 1, 5, 25] (.c (.q 22 [] (.mv (.t 5))) (.c (.q 23 [] (.mv (.t 1))) (.c (.q 24 [] (.len (.t 23))) (.c (.q 25 [] (.bin .lss (.t 22) (.t 24))) .nil))))) t78_2) t78_5)
def t78_6 := b78_6
theorem u78_6 : vcK P t78_6 k e w = vcK P b78_6 k e w := rfl
abbrev b78_7 : X := (.blk 0 (.loop [5] [0, 1] t78_6))
def t78_7 := b78_7
theorem u78_7 : vcK P t78_7 k e w = vcK P b78_7 k e w := rfl
abbrev b78_8 : X := (.seq (.reg [4] (.c (.q 4 [] (.mv (.c (.bool true)))) .nil)) .ret)
def t78_8 := b78_8
theorem u78_8 : vcK P t78_8 k e w = vcK P b78_8 k e w := rfl
abbrev b78_9 : X := (.seq (.seq (.reg [0, 1, 5] (.c (.q 5 [] (.mv (.c (.int .i64 0)))) .nil)) t78_7) t78_8)
def t78_9 := b78_9
theorem u78_9 : vcK P t78_9 k e w = vcK P b78_9 k e w := rfl
abbrev b78_10 : X := (.seq (.seq (.reg [0, 1, 21] (.c (.q 6 [] (.mv (.t 0))) (.c (.e (some 7) [] (.call false 75 [(.t 6), (.c (.int .i64 1)), (.c (.int .i64 4))])) (.c (.q 8 [] (.not (.t 7))) (.c (.q 9 [] (.mv (.t 8))) (.c (.q 10 [(9, false)] (.mv (.t 1))) (.c (.q 11 [(9, false)] (.len (.t 10))) (.c (.q 12 [(9, false)] (.bin .rem (.t 11) (.c (.int .i64 2)))) (.c (.q 13 [(9, false)] (.bin .eql (.t 12) (.c (.int .i64 1)))) (.c (.q 14 [] (.pick (.t 9) (.c (.bool true)) (.t 13))) (.c (.q 15 [] (.mv (.t 14))) (.c (.q 16 [(15, false)] (.mv (.t 1))) (.c (.q 17 [(15, false)] (.len (.t 16))) (.c (.q 18 [(15, false)] (.bin .quo (.t 17) (.c (.int .i64 2)))) (.c (.e (some 19) [(15, false)] (.call false 75 [(.t 18), (.c (.int .i64 1)), (.c (.int .i64 60))])) (.c (.q 20 [(15, false)] (.not (.t 19))) (.c (.q 21 [] (.pick (.t 15) (.c (.bool true)) (.t 20))) .nil))))))))))))))))) t78_1) t78_9)
def t78_10 := b78_10
theorem u78_10 : vcK P t78_10 k e w = vcK P b78_10 k e w := rfl
abbrev b78_0 : X := (.seq (.reg [0, 1] (.c (.q 4 [] (.mv (.c (.bool false)))) .nil)) t78_10)
def x_iisSplice := b78_0
theorem u78_0 : vcK P x_iisSplice k e w = vcK P b78_0 k e w := rfl
def r_iisSplice : List XO := [(.mv (.t 4))]
theorem c_iisSplice : convF Tryz.prog [56, 58, 59, 60, 61, 62, 72, 73, 77, 97, 98, 109, 110, 111, 112, 115, 128, 136] Tryz.f78 [([0, 1], []), ([0, 1, 21], []), ([4], []), ([0, 1, 5], []), ([5], [0, 1]), ([0, 1, 5, 25], []), ([0, 1, 5, 50], []), ([4], []), ([0, 1, 5], []), ([4], [])] = some (x_iisSplice, r_iisSplice) := by kernel_rfl
def us_iisSplice :=  (aI (aI (aI @u78_0 @u78_1) (aI @u78_2 (aI @u78_3 @u78_4))) (aI (aI @u78_5 (aI @u78_6 @u78_7)) (aI @u78_8 (aI @u78_9 @u78_10))))
abbrev b29_1 : X := (.seq (.reg [4] (.c (.q 5 [] (.mv (.t 0))) (.c (.q 6 [] (.lens (.t 5))) (.c (.q 7 [] (.mv (.t 1))) (.c (.e (some 8) [] (.call false 78 [(.t 6), (.t 7)])) (.c (.q 4 [] (.mv (.t 8))) .nil)))))) .ret)
def t29_1 := b29_1
theorem u29_1 : vcK P t29_1 k e w = vcK P b29_1 k e w := rfl
abbrev b29_0 : X := (.seq (.reg [0, 1] (.c (.q 4 [] (.mv (.c (.bool false)))) .nil)) t29_1)
def x_iGoodSplice := b29_0
theorem u29_0 : vcK P x_iGoodSplice k e w = vcK P b29_0 k e w := rfl
def r_iGoodSplice : List XO := [(.mv (.t 4))]
theorem c_iGoodSplice : convF Tryz.prog [56, 58, 59, 60, 61, 62, 72, 73, 77, 97, 98, 109, 110, 111, 112, 115, 128, 136] Tryz.f29 [([0, 1], []), ([4], [])] = some (x_iGoodSplice, r_iGoodSplice) := by kernel_rfl
def us_iGoodSplice :=  (aI @u29_0 @u29_1)
abbrev b83_1 : X := (.seq (.reg [6] (.c (.q 7 [] (.mv (.t 0))) (.c (.q 8 [] (.lda 2 (.t 4))) (.c (.e (some 9) [] (.call false 43 [(.t 7), (.t 8)])) (.c (.q 10 [] (.mv (.t 9))) (.c (.q 11 [(10, true)] (.mv (.t 0))) (.c (.q 12 [(10, true)] (.mv (.t 2))) (.c (.e (some 13) [(10, true)] (.call false 29 [(.t 11), (.t 12)])) (.c (.q 14 [] (.pick (.t 10) (.t 13) (.c (.bool false)))) (.c (.q 6 [] (.mv (.t 14))) .nil)))))))))) .ret)
def t83_1 := b83_1
theorem u83_1 : vcK P t83_1 k e w = vcK P b83_1 k e w := rfl
abbrev b83_0 : X := (.seq (.reg [0, 2, 4] (.c (.e (some 4) [] (.box 27 (.t 1))) (.c (.q 6 [] (.mv (.c (.bool false)))) .nil))) t83_1)
def x_igoodSplice := b83_0
theorem u83_0 : vcK P x_igoodSplice k e w = vcK P b83_0 k e w := rfl
def r_igoodSplice : List XO := [(.mv (.t 6))]
theorem c_igoodSplice : convF Tryz.prog [56, 58, 59, 60, 61, 62, 72, 73, 77, 97, 98, 109, 110, 111, 112, 115, 128, 136] Tryz.f83 [([0, 2, 4], []), ([6], [])] = some (x_igoodSplice, r_igoodSplice) := by kernel_rfl
def us_igoodSplice :=  (aI @u83_0 @u83_1)
abbrev b80_1 : X := (.cond (.t 10) .skip (.exit 0))
def t80_1 := b80_1
theorem u80_1 : vcK P t80_1 k e w = vcK P b80_1 k e w := rfl
abbrev b80_2 : X := (.cond (.t 35) (.seq (.reg [4] (.c (.q 4 [] (.mv (.c (.bool false)))) .nil)) .ret) .skip)
def t80_2 := b80_2
theorem u80_2 : vcK P t80_2 k e w = vcK P b80_2 k e w := rfl
abbrev b80_3 : X := (.reg [0, 1, 5] (.c (.q 11 [] (.mv (.t 5))) (.c (.q 12 [] (.bin .add (.t 11) (.c (.int .i64 2)))) (.c (.q 5 [] (.mv (.t 12))) .nil))))
def t80_3 := b80_3
theorem u80_3 : vcK P t80_3 k e w = vcK P b80_3 k e w := rfl
abbrev b80_4 : X := (.seq (.blk 1 (.seq (.reg [0, 1, 5, 35] (.c (.q 13 [] (.mv (.t 1))) (.c (.q 14 [] (.mv (.t 5))) (.c (.q 15 [] (.idx (.t 13) (.t 14))) (.c (.q 16 [] (.bin .lss (.t 15) (.c (.int .u8 65)))) (.c (.q 17 [] (.mv (.t 16))) (.c (.q 18 [(17, false)] (.mv (.t 1))) (.c (.q 19 [(17, false)] (.mv (.t 5))) (.c (.q 20 [(17, false)] (.idx (.t 18) (.t 19))) (.c (.q 21 [(17, false)] (.cvi .i64 (.t 20))) (.c (.q 22 [(17, false)] (.bin .sub (.t 21) (.c (.int .i64 65)))) (.c (.q 23 [(17, false)] (.mv (.t 0))) (.c (.q 24 [(17, false)] (.bin .geq (.t 22) (.t 23))) (.c (.q 25 [] (.pick (.t 17) (.c (.bool true)) (.t 24))) (.c (.q 26 [] (.mv (.t 25))) (.c (.q 27 [(26, false)] (.mv (.t 1))) (.c (.q 28 [(26, false)] (.mv (.t 5))) (.c (.q 29 [(26, false)] (.bin .add (.t 28) (.c (.int .i64 1)))) (.c (.q 30 [(26, false)] (.mv (.t 5))) (.c (.q 31 [(26, false)] (.bin .add (.t 30) (.c (.int .i64 2)))) (.c (.q 32 [(26, false)] (.sub (.t 27) (some (.t 29)) (some (.t 31)))) (.c (.e (some 33) [(26, false)] (.call false 125 [(.t 32)])) (.c (.q 34 [(26, false)] (.not (.t 33))) (.c (.q 35 [] (.pick (.t 26) (.c (.bool true)) (.t 34))) .nil)))))))))))))))))))))))) t80_2)) t80_3)
def t80_4 := b80_4
theorem u80_4 : vcK P t80_4 k e w = vcK P b80_4 k e w := rfl
abbrev b80_5 : X := (.seq (.seq (.reg [0, 1, 5, 10] (.c (.q 6 [] (.mv (.t 5))) (.c (.q 7 [] (.bin .add (.t 6) (.c (.int .i64 1)))) (.c (.q 8 [] (.mv (.t 1))) (.c (.q 9 [] (.len (.t 8))) (.c (.q 10 [] (.bin .lss (.t 7) (.t 9))) .nil)))))) t80_1) t80_4)
def t80_5 := b80_5
theorem u80_5 : vcK P t80_5 k e w = vcK P b80_5 k e w := rfl
abbrev b80_6 : X := (.blk 0 (.loop [5] [0, 1] t80_5))
def t80_6 := b80_6
theorem u80_6 : vcK P t80_6 k e w = vcK P b80_6 k e w := rfl
abbrev b80_7 : X := (.seq (.reg [4] (.c (.q 36 [] (.mv (.t 0))) (.c (.e (some 37) [] (.call false 67 [(.t 36), (.c (.int .i64 1)), (.c (.int .i64 4))])) (.c (.q 38 [] (.mv (.t 37))) (.c (.q 39 [(38, true)] (.mv (.t 1))) (.c (.q 40 [(38, true)] (.len (.t 39))) (.c (.q 41 [(38, true)] (.bin .rem (.t 40) (.c (.int .i64 2)))) (.c (.q 42 [(38, true)] (.bin .eql (.t 41) (.c (.int .i64 0)))) (.c (.q 43 [] (.pick (.t 38) (.t 42) (.c (.bool false)))) (.c (.q 44 [] (.mv (.t 43))) (.c (.q 45 [(44, true)] (.mv (.t 1))) (.c (.q 46 [(44, true)] (.len (.t 45))) (.c (.e (some 47) [(44, true)] (.call false 67 [(.t 46), (.c (.int .i64 2)), (.c (.int .i64 120))])) (.c (.q 48 [] (.pick (.t 44) (.t 47) (.c (.bool false)))) (.c (.q 4 [] (.mv (.t 48))) .nil))))))))))))))) .ret)
def t80_7 := b80_7
theorem u80_7 : vcK P t80_7 k e w = vcK P b80_7 k e w := rfl
abbrev b80_8 : X := (.seq (.seq (.reg [0, 1, 5] (.c (.q 5 [] (.mv (.c (.int .i64 0)))) .nil)) t80_6) t80_7)
def t80_8 := b80_8
theorem u80_8 : vcK P t80_8 k e w = vcK P b80_8 k e w := rfl
abbrev b80_0 : X := (.seq (.reg [0, 1] (.c (.q 4 [] (.mv (.c (.bool false)))) .nil)) t80_8)
def x_sl14Good := b80_0
theorem u80_0 : vcK P x_sl14Good k e w = vcK P b80_0 k e w := rfl
def r_sl14Good : List XO := [(.mv (.t 4))]
theorem c_sl14Good : convF Tryz.prog [56, 58, 59, 60, 61, 62, 72, 73, 77, 97, 98, 109, 110, 111, 112, 115, 128, 136] Tryz.f80 [([0, 1], []), ([0, 1, 5], []), ([5], [0, 1]), ([0, 1, 5, 10], []), ([0, 1, 5, 35], []), ([4], []), ([0, 1, 5], []), ([4], [])] = some (x_sl14Good, r_sl14Good) := by kernel_rfl
def us_sl14Good :=  (aI (aI (aI @u80_0 @u80_1) (aI @u80_2 @u80_3)) (aI (aI @u80_4 @u80_5) (aI @u80_6 (aI @u80_7 @u80_8))))
abbrev b79_1 : X := (.seq (.reg [4] (.c (.q 5 [] (.mv (.t 0))) (.c (.q 6 [] (.mv (.t 1))) (.c (.q 7 [] (.bin .mul (.c (.int .i64 2)) (.t 6))) (.c (.q 8 [] (.idx (.t 5) (.t 7))) (.c (.q 9 [] (.bin .sub (.t 8) (.c (.int .u8 65)))) (.c (.q 10 [] (.cvi .i64 (.t 9))) (.c (.q 4 [] (.mv (.t 10))) .nil)))))))) .ret)
def t79_1 := b79_1
theorem u79_1 : vcK P t79_1 k e w = vcK P b79_1 k e w := rfl
abbrev b79_0 : X := (.seq (.reg [0, 1] (.c (.q 4 [] (.mv (.c (.int .i64 0)))) .nil)) t79_1)
def x_imethodAt := b79_0
theorem u79_0 : vcK P x_imethodAt k e w = vcK P b79_0 k e w := rfl
def r_imethodAt : List XO := [(.mv (.t 4))]
theorem c_imethodAt : convF Tryz.prog [56, 58, 59, 60, 61, 62, 72, 73, 77, 97, 98, 109, 110, 111, 112, 115, 128, 136] Tryz.f79 [([0, 1], []), ([4], [])] = some (x_imethodAt, r_imethodAt) := by kernel_rfl
def us_imethodAt :=  (aI @u79_0 @u79_1)
end
/-- A method as a value: its changes are a slice. -/
structure MS where
  nm : List UInt8
  st : Int
  sv : SV
def MS.nil : MS := ⟨[], 0, SV.nil⟩
def fMS (m : MS) : List Value := fM m.nm m.st m.sv.v
theorem fMS_len (m : MS) : (fMS m).length = 3 := rfl
theorem fMS_one : ∀ m, ∀ u ∈ fMS m, u.oneCell' = true := fun m => fM_one m.nm m.st m.sv.v rfl
/-- A slice of methods, as it is read. -/
def SqM (w : World) (v : Value) (ms : List MS) (css : List (List (List UInt8))) : Prop := Sq fMS 3 w v ms ∧ css.length = ms.length ∧ ∀ i < ms.length, Sq fS 1 w (ms.getD i MS.nil).sv.v (css.getD i [])
theorem SqM.ext {w w' : World} {v : Value} {ms : List MS} {css : List (List (List UInt8))} (h : SqM w v ms css) (hx : Ext w w') : SqM w' v ms css := ⟨h.1.ext hx, h.2.1, fun i hi => (h.2.2 i hi).ext hx⟩
/-- No part is longer than the law asks. -/
def MSmall (ms : List MS) (css : List (List (List UInt8))) : Prop := ms.length ≤ 1048576 ∧ ∀ i < ms.length, (ms.getD i MS.nil).nm.length ≤ 1048576 ∧ (css.getD i []).length ≤ 1048576 ∧ ∀ c ∈ css.getD i [], c.length ≤ 1048576
/-- Valid methods of one stage, with calls. -/
def SplM (ms : List MS) (css : List (List (List UInt8))) (b s : List UInt8) : Prop := (1 ≤ ms.length ∧ ms.length ≤ 4) ∧ (∀ i < ms.length, IsMethod (ms.getD i MS.nil).nm (ms.getD i MS.nil).st (css.getD i []) ∧ (ms.getD i MS.nil).st = (ms.getD 0 MS.nil).st) ∧ IsMC (ms.getD 0 MS.nil).nm (ms.getD 0 MS.nil).st (css.getD 0 []) b s
instance (ms : List MS) (css : List (List (List UInt8))) (b s : List UInt8) : Decidable (SplM ms css b s) := by unfold SplM; infer_instance
theorem SqM.st0 {w : World} {v : Value} {ms : List MS} {css : List (List (List UInt8))} (h : SqM w v ms css) (hz : 0 < ms.length) : ∀ k : IntKind, ldV w (faV 1 (iaV 3 v (.int k 0))) = .int .i64 (ms.getD 0 MS.nil).st ∧ ldD w (faV 1 (iaV 3 v (.int k 0))) = True := fun k => h.1.atf MS.nil hz k 1 (by omega)
theorem SqM.p0 {w : World} {v : Value} {ms : List MS} {css : List (List (List UInt8))} (h : SqM w v ms css) (hz : 0 < ms.length) : ∀ k : IntKind, isP (iaV 3 v (.int k 0)) = True := fun k => by
  obtain ⟨a, e, _⟩ := h.1.2.at k 0 hz
  have e2 : iaV 3 v (.int k 0) = .pointer (some (a.add (0 * 3))) := e
  rw [e2]
  exact eq_true trivial
theorem SqM.m0 {w : World} {v : Value} {ms : List MS} {css : List (List (List UInt8))} (h : SqM w v ms css) (hz : 0 < ms.length) : ∀ k : IntKind, ldaV w 3 (iaV 3 v (.int k 0)) = mV (ms.getD 0 MS.nil).nm (ms.getD 0 MS.nil).st (ms.getD 0 MS.nil).sv.v ∧ ldaD w 3 (iaV 3 v (.int k 0)) = True := fun k => h.1.ata MS.nil hz k
theorem iGoodSpliced_ok (v : Value) (ms : List MS) (css : List (List (List UInt8))) (b s : List UInt8) (hsm : MSmall ms css) (hb : b.length ≤ 1048576 ∧ s.length ≤ 1048576) (w : World) (h : SqM w v ms css) : Fn 43 [v, kV b s] w (fun r _ => r = .bool (decide (SplM ms css b s))) := by
  (refine callsV_of mix Tryz.func43 c_iGoodSpliced ?_; simp only [↓vsd, vsn, gW, qd, qv, ev, pick, argE, zipE, ne_eq, eq_self, forall_const, implies_true, if_true, if_false, reduceIte, reduceCtorEq, Nat.reduceEqDiff, Nat.reduceAdd, Nat.reduceLT, ↓us_iGoodSpliced, r_iGoodSpliced])
  refine m_al ?_
  rintro b1 w1 hb1 hblk1 hx1 hs1
  have h1 : Blk w1 b1 (fQ b s) 27 := hblk1
  have hq1 := h.ext hx1
  simp only [↓vsd, vsn, gW, qd, qv, ev, pick, argE, zipE, ne_eq, eq_self, forall_const, implies_true, if_true, if_false, reduceIte, reduceCtorEq, Nat.reduceEqDiff, Nat.reduceAdd, Nat.reduceLT, ↓us_iGoodSpliced, r_iGoodSpliced, hq1.1.facts]
  refine m_call (iwithin_ok _ _ _ _) ?_
  rintro _ w2 hx2 rfl
  have hx2 : Ext w1 w2 := by first | exact hx2 | exact ud hx2 | exact ud (ud hx2)
  have hx12 := hx1.trans hx2
  have hq2 := hq1.ext hx2
  have h12 := h1.ext hx2
  by_cases hl : 1 ≤ ms.length ∧ ms.length ≤ 4
  · have hl1 : (1 : Int) ≤ ms.length := by omega
    have hl2 : (ms.length : Int) ≤ 4 := by omega
    simp only [↓vsd, vsn, gW, qd, qv, ev, pick, argE, zipE, ne_eq, eq_self, forall_const, implies_true, if_true, if_false, reduceIte, reduceCtorEq, Nat.reduceEqDiff, Nat.reduceAdd, Nat.reduceLT, ↓us_iGoodSpliced, r_iGoodSpliced, hl1, hl2, hq2.1.facts]
    refine m_upto ms.length (fun i vs w' => vs = [.int .i64 i] ∧ (∀ j < i, IsMethod (ms.getD j MS.nil).nm (ms.getD j MS.nil).st (css.getD j []) ∧ (ms.getD j MS.nil).st = (ms.getD 0 MS.nil).st) ∧ Ext w2 w') ⟨rfl, fun j hj => by omega, Ext.refl _⟩ ?_
    rintro i vs w3 hi ⟨rfl, hall, hx3⟩
    have hq3 := hq2.ext hx3
    have h13 := h12.ext hx3
    have hx13 := hx12.trans hx3
    have hz : 0 < ms.length := by omega
    by_cases hlt : i < ms.length
    · have hltI : (i : Int) < ms.length := by omega
      have hltJ : ¬ (ms.length : Int) ≤ i := by omega
      have a3 := hq3.1.ata MS.nil hlt
      simp only [↓vsd, vsn, gW, qd, qv, ev, pick, argE, zipE, ne_eq, eq_self, forall_const, implies_true, if_true, if_false, reduceIte, reduceCtorEq, Nat.reduceEqDiff, Nat.reduceAdd, Nat.reduceLT, ↓us_iGoodSpliced, r_iGoodSpliced, hltI, hltJ, hq3.1.facts, a3]
      refine ⟨by omega, m_al ?_⟩
      rintro b4 w4 hb4 hblk4 hx4 hs4
      simp only [↓vsd, vsn, gW, qd, qv, ev, pick, argE, zipE, ne_eq, eq_self, forall_const, implies_true, if_true, if_false, reduceIte, reduceCtorEq, Nat.reduceEqDiff, Nat.reduceAdd, Nat.reduceLT, ↓us_iGoodSpliced, r_iGoodSpliced]
      refine m_st hblk4 rfl (Nat.le_refl 3) (fMS_one _) ?_
      rintro w5 hb5 hu5
      have hx5 : Ext w3 w5 := hu5.below hx4 (by omega)
      have h15 := h13.ext hx5
      have hq5 := hq3.ext hx5
      have hm5 : Blk w5 b4 (fM (ms.getD i MS.nil).nm (ms.getD i MS.nil).st (ms.getD i MS.nil).sv.v) 25 := hb5
      have hsi := hsm.2 i hlt
      have hx15 := hx13.trans hx5
      have hxd : Ext w5 w5.drew := dr (Ext.refl _)
      have hmd := hm5.ext hxd
      have z5 := (hq5.ext hxd).st0 hz
      simp only [↓vsd, vsn, gW, qd, qv, ev, pick, argE, zipE, ne_eq, eq_self, forall_const, implies_true, if_true, if_false, reduceIte, reduceCtorEq, Nat.reduceEqDiff, Nat.reduceAdd, Nat.reduceLT, ↓us_iGoodSpliced, r_iGoodSpliced, hm5.facts, hmd.facts, fMg]
      refine m_call (iGoodMethod_ok _ _ _ (css.getD i []) hsi.1 hsi.2.2 (by have := hsi.2.1; omega) _ ((hq5.2.2 i hlt).ext hxd)) ?_
      rintro _ w6 hx6 rfl
      have hx6 : Ext w5 w6 := by first | exact hx6 | exact ud hx6 | exact ud (ud hx6)
      have hx36 := hx5.trans hx6
      have hx26 := hx3.trans hx36
      have hx06 := hx12.trans hx26
      by_cases hg : IsMethod (ms.getD i MS.nil).nm (ms.getD i MS.nil).st (css.getD i [])
      · by_cases hst : (ms.getD i MS.nil).st = (ms.getD 0 MS.nil).st
        · have hq5f := hq5.1.facts
          have hp0 := hq5.p0 hz
          have hg2 := hg
          rw [hst] at hg2
          simp only [↓vsd, vsn, gW, qd, qv, ev, pick, argE, zipE, ne_eq, eq_self, forall_const, implies_true, if_true, if_false, reduceIte, reduceCtorEq, Nat.reduceEqDiff, Nat.reduceAdd, Nat.reduceLT, ↓us_iGoodSpliced, r_iGoodSpliced, hg, hg2, hm5.facts, hmd.facts, fMg, z5, hst, hq5f, hp0]
          refine ⟨by omega, inR_i64 (by omega), UpTo.next hlt ⟨by simp, fun j hj => ?_, hx26⟩⟩
          by_cases hji : j = i
          · subst hji; exact ⟨hg, hst⟩
          · exact hall j (by omega)
        · have hno : ¬ SplM ms css b s := fun hh => hst (hh.2.1 i hlt).2
          have hq5f := hq5.1.facts
          have hp0 := hq5.p0 hz
          simp only [↓vsd, vsn, gW, qd, qv, ev, pick, argE, zipE, ne_eq, eq_self, forall_const, implies_true, if_true, if_false, reduceIte, reduceCtorEq, Nat.reduceEqDiff, Nat.reduceAdd, Nat.reduceLT, ↓us_iGoodSpliced, r_iGoodSpliced, hg, hm5.facts, hmd.facts, fMg, z5, hst, hq5f, hp0, hno]
          exact ⟨by omega, hx06⟩
      · have hno : ¬ SplM ms css b s := fun hh => hg (hh.2.1 i hlt).1
        simp only [↓vsd, vsn, gW, qd, qv, ev, pick, argE, zipE, ne_eq, eq_self, forall_const, implies_true, if_true, if_false, reduceIte, reduceCtorEq, Nat.reduceEqDiff, Nat.reduceAdd, Nat.reduceLT, ↓us_iGoodSpliced, r_iGoodSpliced, hg, hno]
        exact hx06
    · obtain rfl : i = ms.length := by omega
      have hltI : ¬ (ms.length : Int) < ms.length := by omega
      have hxd : Ext w3 w3.drew := dr (Ext.refl _)
      have m0 := (hq3.ext hxd).m0 hz
      have h1d := h13.ext hxd
      have hq3f := hq3.1.facts
      simp only [↓vsd, vsn, gW, qd, qv, ev, pick, argE, zipE, ne_eq, eq_self, forall_const, implies_true, if_true, if_false, reduceIte, reduceCtorEq, Nat.reduceEqDiff, Nat.reduceAdd, Nat.reduceLT, ↓us_iGoodSpliced, r_iGoodSpliced, hltI, m0, hq3f, h1d.facts, fQg]
      have hs0 := hsm.2 0 hz
      refine ⟨by omega, m_call (iGoodCalls_ok _ _ _ (css.getD 0 []) b s hs0.1 hs0.2.2 (by have := hs0.2.1; omega) hb _ ((hq3.2.2 0 hz).ext hxd)) ?_⟩
      rintro _ w4 hx4 rfl
      have hx4 : Ext w3 w4 := by first | exact hx4 | exact ud hx4 | exact ud (ud hx4)
      simp only [↓vsd, vsn, gW, qd, qv, ev, pick, argE, zipE, ne_eq, eq_self, forall_const, implies_true, if_true, if_false, reduceIte, reduceCtorEq, Nat.reduceEqDiff, Nat.reduceAdd, Nat.reduceLT, ↓us_iGoodSpliced, r_iGoodSpliced]
      refine ⟨hx13.trans hx4, ?_⟩
      by_cases hM : IsMC (ms.getD 0 MS.nil).nm (ms.getD 0 MS.nil).st (css.getD 0 []) b s
      · rw [decide_eq_true hM, decide_eq_true (show SplM ms css b s from ⟨hl, hall, hM⟩)]
      · rw [decide_eq_false hM, decide_eq_false (fun hh : SplM ms css b s => hM hh.2.2)]
  · have hno : ¬ SplM ms css b s := fun hh => hl hh.1
    have hl1 : (decide ((1 : Int) ≤ ms.length) && decide ((ms.length : Int) ≤ 4)) = false := by
      rw [Bool.and_eq_false_iff, decide_eq_false_iff_not, decide_eq_false_iff_not]; omega
    simp only [↓vsd, vsn, gW, qd, qv, ev, pick, argE, zipE, ne_eq, eq_self, forall_const, implies_true, if_true, if_false, reduceIte, reduceCtorEq, Nat.reduceEqDiff, Nat.reduceAdd, Nat.reduceLT, ↓us_iGoodSpliced, r_iGoodSpliced, hl1, hno]
    exact hx12
/-- A splice of n methods. -/
def IsSpl (n : Nat) (l : List UInt8) : Prop := (1 ≤ n ∧ n ≤ 4) ∧ (l.length % 2 = 0 ∧ 2 ≤ l.length ∧ l.length ≤ 120) ∧ ∀ i < l.length, i % 2 = 0 → 65 ≤ (l.getD i 0).toNat ∧ (l.getD i 0).toNat < 65 + n ∧ IsCall [l.getD (i + 1) 0]
instance (n : Nat) (l : List UInt8) : Decidable (IsSpl n l) := by unfold IsSpl; infer_instance
theorem iisSplice_ok (n : Nat) (l : List UInt8) (hn : n ≤ 1048576) (hl : l.length ≤ 1048576) (w : World) : Fn 78 [.int .i64 n, S l] w (fun r _ => r = .bool (decide (IsSpl n l))) := by
  (refine callsV_of mix Tryz.func78 c_iisSplice ?_; simp only [↓vsd, vsn, gW, qd, qv, ev, pick, argE, zipE, ne_eq, eq_self, forall_const, implies_true, if_true, if_false, reduceIte, reduceCtorEq, Nat.reduceEqDiff, Nat.reduceAdd, Nat.reduceLT, ↓us_iisSplice, r_iisSplice])
  refine m_call (iwithin_ok _ _ _ _) ?_
  rintro _ w1 hx1 rfl
  have hx1 : Ext w w1 := by first | exact hx1 | exact ud hx1 | exact ud (ud hx1)
  have h2 : ((l.length : Nat) : Int).tmod 2 = ((l.length % 2 : Nat) : Int) := rfl
  have h3 : ((l.length : Nat) : Int).tdiv 2 = ((l.length / 2 : Nat) : Int) := rfl
  by_cases h4 : 1 ≤ n ∧ n ≤ 4
  · have h41 : (1 : Int) ≤ n := by omega
    have h42 : (n : Int) ≤ 4 := by omega
    simp only [↓vsd, vsn, gW, qd, qv, ev, pick, argE, zipE, ne_eq, eq_self, forall_const, implies_true, if_true, if_false, reduceIte, reduceCtorEq, Nat.reduceEqDiff, Nat.reduceAdd, Nat.reduceLT, ↓us_iisSplice, r_iisSplice, h41, h42, h2, h3]
    refine ⟨by decide, fun _ => ⟨by decide, inR_i64 (by omega)⟩, fun hev => ?_, fun hodd => ⟨hx1, ?_⟩⟩
    · refine m_call (iwithin_ok _ _ _ _) ?_
      rintro _ w2 hx2 rfl
      have hx2 : Ext w1 w2 := by first | exact hx2 | exact ud hx2 | exact ud (ud hx2)
      have hx02 := hx1.trans hx2
      by_cases h5 : 2 ≤ l.length ∧ l.length ≤ 120
      · have h51 : (1 : Int) ≤ (l.length / 2 : Nat) := by omega
        have h52 : ((l.length / 2 : Nat) : Int) ≤ 60 := by omega
        have hev2 : ¬ ((l.length % 2 : Nat) : Int) = 1 := hev
        simp only [↓vsd, vsn, gW, qd, qv, ev, pick, argE, zipE, ne_eq, eq_self, forall_const, implies_true, if_true, if_false, reduceIte, reduceCtorEq, Nat.reduceEqDiff, Nat.reduceAdd, Nat.reduceLT, ↓us_iisSplice, r_iisSplice, h51, h52, hev2]
        refine m_upto (l.length / 2) (fun k vs w' => vs = [.int .i64 (2 * k : Nat)] ∧ (∀ i < 2 * k, i % 2 = 0 → 65 ≤ (l.getD i 0).toNat ∧ (l.getD i 0).toNat < 65 + n ∧ IsCall [l.getD (i + 1) 0]) ∧ Ext w w') ⟨rfl, fun i hi => by omega, hx02⟩ ?_
        rintro k vs w3 hk ⟨rfl, hall, hx3⟩
        by_cases hlt : 2 * k < l.length
        · have hltI : ((2 * k : Nat) : Int) < l.length := by omega
          have e1 : ((2 * k : Nat) : Int) + 1 = ((2 * k + 1 : Nat) : Int) := by omega
          have e2 : ((2 * k : Nat) : Int) + 2 = ((2 * k + 2 : Nat) : Int) := by omega
          have hs1 : (l.take (2 * k + 2)).drop (2 * k + 1) = [l.getD (2 * k + 1) 0] := sub_one l (2 * k + 1) (by omega)
          have hno2 : ¬ (65 ≤ (l.getD (2 * k) 0).toNat ∧ (l.getD (2 * k) 0).toNat < 65 + n ∧ IsCall [l.getD (2 * k + 1) 0]) → ¬ IsSpl n l := fun hc hh => hc (hh.2.2 (2 * k) (by omega) (by omega))
          have hok2 : ∀ (h1 : 65 ≤ (l.getD (2 * k) 0).toNat ∧ (l.getD (2 * k) 0).toNat < 65 + n ∧ IsCall [l.getD (2 * k + 1) 0]), ∀ i < 2 * (k + 1), i % 2 = 0 → 65 ≤ (l.getD i 0).toNat ∧ (l.getD i 0).toNat < 65 + n ∧ IsCall [l.getD (i + 1) 0] := fun h1 i hi hi2 => by
            by_cases he : i = 2 * k
            · rw [he]; exact h1
            · exact hall i (by omega) hi2
          have hx8 : (l.getD (2 * k) 0).toNat < 256 := (l.getD (2 * k) 0).toNat_lt
          generalize hxx : (l.getD (2 * k) 0).toNat = x at *
          by_cases hA : 65 ≤ x ∧ x < 65 + n
          · have hA1 : ¬ (x : Int) < 65 := by omega
            have hA3 : (65 : Int) ≤ x := by omega
            have hA2 : ¬ (n : Int) ≤ (x : Int) - 65 := by omega
            have hA4 : (x : Int) - 65 < n := by omega
            simp only [↓vsd, vsn, gW, qd, qv, ev, pick, argE, zipE, ne_eq, eq_self, forall_const, implies_true, if_true, if_false, reduceIte, reduceCtorEq, Nat.reduceEqDiff, Nat.reduceAdd, Nat.reduceLT, ↓us_iisSplice, r_iisSplice, hltI, hxx, hA1, hA3, hA2, hA4, e1, e2, hs1]
            refine ⟨by omega, by omega, inR_u8 (by omega), inR_i64 (by omega), inR_i64 (by omega), inR_i64 (by omega), by omega, ?_⟩
            refine m_call (iisCall_okc _ _) ?_
            rintro _ w4 hx4 rfl
            have hx4 : Ext w3 w4 := by first | exact hx4 | exact ud hx4 | exact ud (ud hx4)
            by_cases hc : IsCall [l.getD (2 * k + 1) 0]
            · simp only [↓vsd, vsn, gW, qd, qv, ev, pick, argE, zipE, ne_eq, eq_self, forall_const, implies_true, if_true, if_false, reduceIte, reduceCtorEq, Nat.reduceEqDiff, Nat.reduceAdd, Nat.reduceLT, ↓us_iisSplice, r_iisSplice, hc]
              exact ⟨inR_i64 (by omega), UpTo.next (by omega) ⟨by first | rfl | (simp; omega), hok2 ⟨hA.1, hA.2, hc⟩, hx3.trans hx4⟩⟩
            · have hno := hno2 (fun hh => hc hh.2.2)
              simp only [↓vsd, vsn, gW, qd, qv, ev, pick, argE, zipE, ne_eq, eq_self, forall_const, implies_true, if_true, if_false, reduceIte, reduceCtorEq, Nat.reduceEqDiff, Nat.reduceAdd, Nat.reduceLT, ↓us_iisSplice, r_iisSplice, hc, hno]
              exact hx3.trans hx4
          · have hno := hno2 (fun hh => hA ⟨hh.1, hh.2.1⟩)
            by_cases hA1 : (x : Int) < 65
            · have hA3 : ¬ (65 : Int) ≤ x := by omega
              simp only [↓vsd, vsn, gW, qd, qv, ev, pick, argE, zipE, ne_eq, eq_self, forall_const, implies_true, if_true, if_false, reduceIte, reduceCtorEq, Nat.reduceEqDiff, Nat.reduceAdd, Nat.reduceLT, ↓us_iisSplice, r_iisSplice, hltI, hxx, hA1, hA3, hno]
              first | exact ⟨by omega, hx3⟩ | exact ⟨by omega, by omega, inR_u8 (by omega), inR_i64 (by omega), hx3⟩
            · have hA3 : (65 : Int) ≤ x := by omega
              have hA2 : (n : Int) ≤ (x : Int) - 65 := by omega
              have hA4 : ¬ (x : Int) - 65 < n := by omega
              simp only [↓vsd, vsn, gW, qd, qv, ev, pick, argE, zipE, ne_eq, eq_self, forall_const, implies_true, if_true, if_false, reduceIte, reduceCtorEq, Nat.reduceEqDiff, Nat.reduceAdd, Nat.reduceLT, ↓us_iisSplice, r_iisSplice, hltI, hxx, hA1, hA3, hA2, hA4, hno]
              first | exact ⟨by omega, hx3⟩ | exact ⟨by omega, by omega, inR_u8 (by omega), inR_i64 (by omega), hx3⟩
        · have hltI : ¬ ((2 * k : Nat) : Int) < l.length := by omega
          have hyes : IsSpl n l := ⟨h4, ⟨by omega, by omega, by omega⟩, fun i hi => hall i (by omega)⟩
          simp only [↓vsd, vsn, gW, qd, qv, ev, pick, argE, zipE, ne_eq, eq_self, forall_const, implies_true, if_true, if_false, reduceIte, reduceCtorEq, Nat.reduceEqDiff, Nat.reduceAdd, Nat.reduceLT, ↓us_iisSplice, r_iisSplice, hltI, hyes]
          exact hx3
      · have hno : ¬ IsSpl n l := fun hh => h5 hh.2.1.2
        have h51 : (decide ((1 : Int) ≤ (l.length / 2 : Nat)) && decide (((l.length / 2 : Nat) : Int) ≤ 60)) = false := by
          rw [Bool.and_eq_false_iff, decide_eq_false_iff_not, decide_eq_false_iff_not]; omega
        have hev2 : ¬ ((l.length % 2 : Nat) : Int) = 1 := hev
        simp only [↓vsd, vsn, gW, qd, qv, ev, pick, argE, zipE, ne_eq, eq_self, forall_const, implies_true, if_true, if_false, reduceIte, reduceCtorEq, Nat.reduceEqDiff, Nat.reduceAdd, Nat.reduceLT, ↓us_iisSplice, r_iisSplice, h51, hev2, hno]
        exact hx02
    · exact (decide_eq_false fun hh : IsSpl n l => by have := hh.2.1.1; omega).symm
  · have hno : ¬ IsSpl n l := fun hh => h4 hh.1
    have h41 : (decide ((1 : Int) ≤ n) && decide ((n : Int) ≤ 4)) = false := by
      rw [Bool.and_eq_false_iff, decide_eq_false_iff_not, decide_eq_false_iff_not]; omega
    simp only [↓vsd, vsn, gW, qd, qv, ev, pick, argE, zipE, ne_eq, eq_self, forall_const, implies_true, if_true, if_false, reduceIte, reduceCtorEq, Nat.reduceEqDiff, Nat.reduceAdd, Nat.reduceLT, ↓us_iisSplice, r_iisSplice, h41, h2, h3, hno]
    exact hx1
theorem sl14Good_ok (n : Nat) (l : List UInt8) (hn : n ≤ 1048576) (hl : l.length ≤ 1048576) (w : World) : Fn 80 [.int .i64 n, S l] w (fun r _ => r = .bool (decide (IsSpl n l))) := by
  (refine callsV_of mix Tryz.func80 c_sl14Good ?_; simp only [↓vsd, vsn, gW, qd, qv, ev, pick, argE, zipE, ne_eq, eq_self, forall_const, implies_true, if_true, if_false, reduceIte, reduceCtorEq, Nat.reduceEqDiff, Nat.reduceAdd, Nat.reduceLT, ↓us_sl14Good, r_sl14Good])
  refine m_upto (l.length / 2) (fun k vs w' => vs = [.int .i64 (2 * k : Nat)] ∧ (∀ i < 2 * k, i % 2 = 0 → 65 ≤ (l.getD i 0).toNat ∧ (l.getD i 0).toNat < 65 + n ∧ IsCall [l.getD (i + 1) 0]) ∧ Ext w w') ⟨rfl, fun i hi => by omega, Ext.refl _⟩ ?_
  rintro k vs w3 hk ⟨rfl, hall, hx3⟩
  by_cases hlt : 2 * k + 1 < l.length
  · have hltI : ((2 * k : Nat) : Int) + 1 < l.length := by omega
    have e1 : ((2 * k : Nat) : Int) + 1 = ((2 * k + 1 : Nat) : Int) := by omega
    have e2 : ((2 * k : Nat) : Int) + 2 = ((2 * k + 2 : Nat) : Int) := by omega
    have hs1 : (l.take (2 * k + 2)).drop (2 * k + 1) = [l.getD (2 * k + 1) 0] := sub_one l (2 * k + 1) (by omega)
    have hno2 : ¬ (65 ≤ (l.getD (2 * k) 0).toNat ∧ (l.getD (2 * k) 0).toNat < 65 + n ∧ IsCall [l.getD (2 * k + 1) 0]) → ¬ IsSpl n l := fun hc hh => hc (hh.2.2 (2 * k) (by omega) (by omega))
    have hok2 : ∀ (h1 : 65 ≤ (l.getD (2 * k) 0).toNat ∧ (l.getD (2 * k) 0).toNat < 65 + n ∧ IsCall [l.getD (2 * k + 1) 0]), ∀ i < 2 * (k + 1), i % 2 = 0 → 65 ≤ (l.getD i 0).toNat ∧ (l.getD i 0).toNat < 65 + n ∧ IsCall [l.getD (i + 1) 0] := fun h1 i hi hi2 => by
      by_cases he : i = 2 * k
      · rw [he]; exact h1
      · exact hall i (by omega) hi2
    have hx8 : (l.getD (2 * k) 0).toNat < 256 := (l.getD (2 * k) 0).toNat_lt
    have hltI2 : ((2 * k + 1 : Nat) : Int) < l.length := by omega
    generalize hxx : (l.getD (2 * k) 0).toNat = x at *
    by_cases hA : 65 ≤ x ∧ x < 65 + n
    · have hA1 : ¬ (x : Int) < 65 := by omega
      have hA3 : (65 : Int) ≤ x := by omega
      have hA2 : ¬ (n : Int) ≤ (x : Int) - 65 := by omega
      have hA4 : (x : Int) - 65 < n := by omega
      simp only [↓vsd, vsn, gW, qd, qv, ev, pick, argE, zipE, ne_eq, eq_self, forall_const, implies_true, if_true, if_false, reduceIte, reduceCtorEq, Nat.reduceEqDiff, Nat.reduceAdd, Nat.reduceLT, ↓us_sl14Good, r_sl14Good, hltI2, hxx, hA1, hA3, hA2, hA4, e1, e2, hs1]
      refine ⟨inR_i64 (by omega), by omega, by omega, inR_i64 (by omega), inR_i64 (by omega), inR_i64 (by omega), inR_i64 (by omega), by omega, ?_⟩
      refine m_call (sl8Call_okc _ _) ?_
      rintro _ w4 hx4 rfl
      have hx4 : Ext w3 w4 := by first | exact hx4 | exact ud hx4 | exact ud (ud hx4)
      by_cases hc : IsCall [l.getD (2 * k + 1) 0]
      · simp only [↓vsd, vsn, gW, qd, qv, ev, pick, argE, zipE, ne_eq, eq_self, forall_const, implies_true, if_true, if_false, reduceIte, reduceCtorEq, Nat.reduceEqDiff, Nat.reduceAdd, Nat.reduceLT, ↓us_sl14Good, r_sl14Good, hc]
        exact ⟨inR_i64 (by omega), UpTo.next (by omega) ⟨by first | rfl | (simp; omega), hok2 ⟨hA.1, hA.2, hc⟩, hx3.trans hx4⟩⟩
      · have hno := hno2 (fun hh => hc hh.2.2)
        simp only [↓vsd, vsn, gW, qd, qv, ev, pick, argE, zipE, ne_eq, eq_self, forall_const, implies_true, if_true, if_false, reduceIte, reduceCtorEq, Nat.reduceEqDiff, Nat.reduceAdd, Nat.reduceLT, ↓us_sl14Good, r_sl14Good, hc, hno]
        exact hx3.trans hx4
    · have hno := hno2 (fun hh => hA ⟨hh.1, hh.2.1⟩)
      by_cases hA1 : (x : Int) < 65
      · have hA3 : ¬ (65 : Int) ≤ x := by omega
        simp only [↓vsd, vsn, gW, qd, qv, ev, pick, argE, zipE, ne_eq, eq_self, forall_const, implies_true, if_true, if_false, reduceIte, reduceCtorEq, Nat.reduceEqDiff, Nat.reduceAdd, Nat.reduceLT, ↓us_sl14Good, r_sl14Good, hltI, hxx, hA1, hA3, hno]
        first | exact ⟨inR_i64 (by omega), by omega, hx3⟩ | exact ⟨inR_i64 (by omega), by omega, by omega, inR_i64 (by omega), hx3⟩ | exact ⟨inR_i64 (by omega), by omega, by omega, inR_i64 (by omega), inR_i64 (by omega), hx3⟩
      · have hA3 : (65 : Int) ≤ x := by omega
        have hA2 : (n : Int) ≤ (x : Int) - 65 := by omega
        have hA4 : ¬ (x : Int) - 65 < n := by omega
        simp only [↓vsd, vsn, gW, qd, qv, ev, pick, argE, zipE, ne_eq, eq_self, forall_const, implies_true, if_true, if_false, reduceIte, reduceCtorEq, Nat.reduceEqDiff, Nat.reduceAdd, Nat.reduceLT, ↓us_sl14Good, r_sl14Good, hltI, hxx, hA1, hA3, hA2, hA4, hno]
        first | exact ⟨inR_i64 (by omega), by omega, hx3⟩ | exact ⟨inR_i64 (by omega), by omega, by omega, inR_i64 (by omega), hx3⟩ | exact ⟨inR_i64 (by omega), by omega, by omega, inR_i64 (by omega), inR_i64 (by omega), hx3⟩
  · have hltI : ¬ ((2 * k : Nat) : Int) + 1 < l.length := by omega
    simp only [↓vsd, vsn, gW, qd, qv, ev, pick, argE, zipE, ne_eq, eq_self, forall_const, implies_true, if_true, if_false, reduceIte, reduceCtorEq, Nat.reduceEqDiff, Nat.reduceAdd, Nat.reduceLT, ↓us_sl14Good, r_sl14Good, hltI]
    refine ⟨inR_i64 (by omega), ?_⟩
    refine m_call (sl1In_ok _ _ _ _) ?_
    rintro _ w4 hx4 rfl
    have hx4 : Ext w3 w4 := by first | exact hx4 | exact ud hx4 | exact ud (ud hx4)
    have hx04 := hx3.trans hx4
    have h2 : ((l.length : Nat) : Int).tmod 2 = ((l.length % 2 : Nat) : Int) := rfl
    by_cases h4 : 1 ≤ n ∧ n ≤ 4
    · have h41 : (1 : Int) ≤ n := by omega
      have h42 : (n : Int) ≤ 4 := by omega
      by_cases h5 : l.length % 2 = 0
      · have h51 : ((l.length % 2 : Nat) : Int) = 0 := by omega
        simp only [↓vsd, vsn, gW, qd, qv, ev, pick, argE, zipE, ne_eq, eq_self, forall_const, implies_true, if_true, if_false, reduceIte, reduceCtorEq, Nat.reduceEqDiff, Nat.reduceAdd, Nat.reduceLT, ↓us_sl14Good, r_sl14Good, h41, h42, h2, h51]
        refine ⟨by decide, m_call (sl1In_ok _ _ _ _) ?_⟩
        rintro _ w5 hx5 rfl
        have hx5 : Ext w4 w5 := by first | exact hx5 | exact ud hx5 | exact ud (ud hx5)
        simp only [↓vsd, vsn, gW, qd, qv, ev, pick, argE, zipE, ne_eq, eq_self, forall_const, implies_true, if_true, if_false, reduceIte, reduceCtorEq, Nat.reduceEqDiff, Nat.reduceAdd, Nat.reduceLT, ↓us_sl14Good, r_sl14Good]
        refine ⟨hx04.trans hx5, ?_⟩
        by_cases h6 : 2 ≤ l.length ∧ l.length ≤ 120
        · have h61 : (2 : Int) ≤ l.length := by omega
          have h62 : (l.length : Int) ≤ 120 := by omega
          rw [decide_eq_true h61, decide_eq_true h62]
          exact (decide_eq_true (show IsSpl n l from ⟨h4, ⟨h5, h6⟩, fun i hi => hall i (by omega)⟩)).symm
        · have h61 : (decide ((2 : Int) ≤ l.length) && decide ((l.length : Int) ≤ 120)) = false := by
            rw [Bool.and_eq_false_iff, decide_eq_false_iff_not, decide_eq_false_iff_not]; omega
          rw [h61]
          exact (decide_eq_false fun hh : IsSpl n l => h6 hh.2.1.2).symm
      · have h51 : ¬ ((l.length % 2 : Nat) : Int) = 0 := by omega
        have hno : ¬ IsSpl n l := fun hh => h5 hh.2.1.1
        simp only [↓vsd, vsn, gW, qd, qv, ev, pick, argE, zipE, ne_eq, eq_self, forall_const, implies_true, if_true, if_false, reduceIte, reduceCtorEq, Nat.reduceEqDiff, Nat.reduceAdd, Nat.reduceLT, ↓us_sl14Good, r_sl14Good, h41, h42, h2, h51, hno]
        exact ⟨by decide, hx04⟩
    · have hno : ¬ IsSpl n l := fun hh => h4 hh.1
      have h41 : (decide ((1 : Int) ≤ n) && decide ((n : Int) ≤ 4)) = false := by
        rw [Bool.and_eq_false_iff, decide_eq_false_iff_not, decide_eq_false_iff_not]; omega
      simp only [↓vsd, vsn, gW, qd, qv, ev, pick, argE, zipE, ne_eq, eq_self, forall_const, implies_true, if_true, if_false, reduceIte, reduceCtorEq, Nat.reduceEqDiff, Nat.reduceAdd, Nat.reduceLT, ↓us_sl14Good, r_sl14Good, h41, h2, hno]
      exact hx04
/-- Is a splice asked? -/
def SplOk (ms : List MS) (css : List (List (List UInt8))) (b s t : List UInt8) : Prop := SplM ms css b s ∧ IsSpl ms.length t
instance (ms : List MS) (css : List (List (List UInt8))) (b s t : List UInt8) : Decidable (SplOk ms css b s t) := by unfold SplOk; infer_instance
theorem splok_dec {ms : List MS} {css : List (List (List UInt8))} {b s t : List UInt8} (h : SplM ms css b s) : decide (IsSpl ms.length t) = decide (SplOk ms css b s t) := by
  by_cases hs : IsSpl ms.length t
  · rw [decide_eq_true hs, decide_eq_true (show SplOk ms css b s t from ⟨h, hs⟩)]
  · rw [decide_eq_false hs, decide_eq_false (fun hh : SplOk ms css b s t => hs hh.2)]
theorem iGoodSplice_ok (v : Value) (ms : List MS) (css : List (List (List UInt8))) (t : List UInt8) (hn : ms.length ≤ 1048576) (ht : t.length ≤ 1048576) (w : World) (h : SqM w v ms css) : Fn 29 [v, S t] w (fun r _ => r = .bool (decide (IsSpl ms.length t))) := by
  (refine callsV_of mix Tryz.func29 c_iGoodSplice ?_; simp only [↓vsd, vsn, gW, qd, qv, ev, pick, argE, zipE, ne_eq, eq_self, forall_const, implies_true, if_true, if_false, reduceIte, reduceCtorEq, Nat.reduceEqDiff, Nat.reduceAdd, Nat.reduceLT, ↓us_iGoodSplice, r_iGoodSplice])
  simp only [↓vsd, vsn, gW, qd, qv, ev, pick, argE, zipE, ne_eq, eq_self, forall_const, implies_true, if_true, if_false, reduceIte, reduceCtorEq, Nat.reduceEqDiff, Nat.reduceAdd, Nat.reduceLT, ↓us_iGoodSplice, r_iGoodSplice, h.1.facts]
  refine m_call (iisSplice_ok ms.length t hn ht _) ?_
  rintro _ w1 hx1 rfl
  have hx1 : Ext w w1 := by first | exact hx1 | exact ud hx1 | exact ud (ud hx1)
  simp only [↓vsd, vsn, gW, qd, qv, ev, pick, argE, zipE, ne_eq, eq_self, forall_const, implies_true, if_true, if_false, reduceIte, reduceCtorEq, Nat.reduceEqDiff, Nat.reduceAdd, Nat.reduceLT, ↓us_iGoodSplice, r_iGoodSplice]
  exact hx1
theorem igoodSplice_ok (v : Value) (ms : List MS) (css : List (List (List UInt8))) (b s t : List UInt8) (hsm : MSmall ms css) (hb : b.length ≤ 1048576 ∧ s.length ≤ 1048576) (ht : t.length ≤ 1048576) (w : World) (h : SqM w v ms css) : Fn 83 [v, kV b s, S t] w (fun r _ => r = .bool (decide (SplOk ms css b s t))) := by
  (refine callsV_of mix Tryz.func83 c_igoodSplice ?_; simp only [↓vsd, vsn, gW, qd, qv, ev, pick, argE, zipE, ne_eq, eq_self, forall_const, implies_true, if_true, if_false, reduceIte, reduceCtorEq, Nat.reduceEqDiff, Nat.reduceAdd, Nat.reduceLT, ↓us_igoodSplice, r_igoodSplice])
  refine m_al ?_
  rintro b1 w1 hb1 hblk1 hx1 hs1
  have h1 : Blk w1 b1 (fQ b s) 27 := hblk1
  simp only [↓vsd, vsn, gW, qd, qv, ev, pick, argE, zipE, ne_eq, eq_self, forall_const, implies_true, if_true, if_false, reduceIte, reduceCtorEq, Nat.reduceEqDiff, Nat.reduceAdd, Nat.reduceLT, ↓us_igoodSplice, r_igoodSplice, h1.facts, fQg]
  refine m_call (iGoodSpliced_ok v ms css b s hsm hb _ (by first | exact h.ext hx1 | exact h.ext (dr hx1))) ?_
  rintro _ w2 hx2 rfl
  have hx2 : Ext w1 w2 := by first | exact hx2 | exact ud hx2 | exact ud (ud hx2)
  have hx12 := hx1.trans hx2
  by_cases hM : SplM ms css b s
  · simp only [↓vsd, vsn, gW, qd, qv, ev, pick, argE, zipE, ne_eq, eq_self, forall_const, implies_true, if_true, if_false, reduceIte, reduceCtorEq, Nat.reduceEqDiff, Nat.reduceAdd, Nat.reduceLT, ↓us_igoodSplice, r_igoodSplice, hM]
    refine m_call (iGoodSplice_ok v ms css t hsm.1 ht _ (by first | exact h.ext hx12 | exact h.ext (dr hx12))) ?_
    rintro _ w3 hx3 rfl
    have hx3 : Ext w2 w3 := by first | exact hx3 | exact ud hx3 | exact ud (ud hx3)
    simp only [↓vsd, vsn, gW, qd, qv, ev, pick, argE, zipE, ne_eq, eq_self, forall_const, implies_true, if_true, if_false, reduceIte, reduceCtorEq, Nat.reduceEqDiff, Nat.reduceAdd, Nat.reduceLT, ↓us_igoodSplice, r_igoodSplice]
    exact ⟨hx12.trans hx3, splok_dec hM⟩
  · have hno : ¬ SplOk ms css b s t := fun hh => hM hh.1
    simp only [↓vsd, vsn, gW, qd, qv, ev, pick, argE, zipE, ne_eq, eq_self, forall_const, implies_true, if_true, if_false, reduceIte, reduceCtorEq, Nat.reduceEqDiff, Nat.reduceAdd, Nat.reduceLT, ↓us_igoodSplice, r_igoodSplice, hM, hno]
    exact hx12
/-- The number of the method of lead i. -/
def mA (t : List UInt8) (i : Nat) : Nat := (t.getD (2 * i) 0).toNat - 65
theorem mA_lt {n : Nat} {t : List UInt8} {i : Nat} (h : IsSpl n t) (hi : i < t.length / 2) : 65 ≤ (t.getD (2 * i) 0).toNat ∧ mA t i < n ∧ IsCall [t.getD (2 * i + 1) 0] ∧ ((t.getD (2 * i) 0).toNat : Int) - 65 = (mA t i : Int) := by
  obtain ⟨h1, h2, h3⟩ := h.2.2 (2 * i) (by omega) (by omega)
  unfold mA
  exact ⟨h1, by omega, h3, by omega⟩
theorem imethodAt_ok (n : Nat) (t : List UInt8) (i : Nat) (h : IsSpl n t) (hi : i < t.length / 2) (w : World) : Fn 79 [S t, .int .i64 i] w (fun r _ => r = .int .i64 (mA t i : Nat)) := by
  obtain ⟨h1, h2, _, h3⟩ := mA_lt h hi
  have hx8 : (t.getD (2 * i) 0).toNat < 256 := (t.getD (2 * i) 0).toNat_lt
  have e2 : (2 : Int) * (i : Int) = ((2 * i : Nat) : Int) := by omega
  have htl := h.2.1
  (refine callsV_of mix Tryz.func79 c_imethodAt ?_; simp only [↓vsd, vsn, gW, qd, qv, ev, pick, argE, zipE, ne_eq, eq_self, forall_const, implies_true, if_true, if_false, reduceIte, reduceCtorEq, Nat.reduceEqDiff, Nat.reduceAdd, Nat.reduceLT, ↓us_imethodAt, r_imethodAt])
  simp only [↓vsd, vsn, gW, qd, qv, ev, pick, argE, zipE, ne_eq, eq_self, forall_const, implies_true, if_true, if_false, reduceIte, reduceCtorEq, Nat.reduceEqDiff, Nat.reduceAdd, Nat.reduceLT, ↓us_imethodAt, r_imethodAt, e2, h3]
  exact ⟨inR_i64 (by omega), by omega, inR_u8 (by omega), inR_i64 (by omega), Ext.refl _⟩
end Go.Proofs.YthopbkemkfjebaaGreat
