/-
  The search of the program: its searcher, its cuts, what it finds.
  Conditions: none.
-/
import Derived.Test.YtfklonhjgkahdaaKA84
import Derived.Test.YtfklonhjgkahdaaKB2
set_option linter.unusedSimpArgs false
set_option linter.unusedVariables false
set_option linter.defProp false
namespace Go.Proofs.Ytfklonhjgkahdaa
open Go Go.RowKit
section
variable (P : Program) (k : KT) (e : Env) (w : World)
abbrev b72_1 : X := (.seq (.drw [6] (.c (.q 7 [] (.lda 3 (.t 3))) (.c (.q 8 [] (.lda 2 (.t 4))) (.c (.q 9 [] (.mv (.t 2))) (.c (.q 10 [] (.lda 3 (.t 3))) (.c (.q 12 [] (.lda 3 (.t 3))) (.c (.q 13 [] (.lda 3 (.t 3))) (.c (.e (some 11) [] (.call false 96 [(.t 10)])) (.c (.e (some 14) [] (.call false 97 [(.t 12), (.t 13)])) (.c (.q 15 [] (.bld [(S []), (.int .i64 0), (.slice none 0 0), (S []), (S []), (.int .i64 0), (.bool false), (.map none), (.int .i64 0), (.slice none 0 0), (.slice none 0 0), (.bool false)] [(0, 3, (.t 7)), (3, 2, (.t 8)), (5, 0, (.t 9)), (6, 0, (.t 11)), (7, 0, (.t 14))])) (.c (.e (some 16) [] (.box 95 (.t 15))) (.c (.q 6 [] (.mv (.t 16))) .nil)))))))))))) .ret)
def t72_1 := b72_1
theorem u72_1 : vcK P t72_1 k e w = vcK P b72_1 k e w := rfl
abbrev b72_0 : X := (.seq (.reg [2, 3, 4] (.c (.e (some 3) [] (.box 44 (.t 0))) (.c (.e (some 4) [] (.box 46 (.t 1))) (.c (.q 6 [] (.mv (.c (.pointer none)))) .nil)))) t72_1)
def x_inewSearcher := b72_0
theorem u72_0 : vcK P x_inewSearcher k e w = vcK P b72_0 k e w := rfl
def r_inewSearcher : List XO := [(.mv (.t 6))]
theorem c_inewSearcher : convF Try.prog [38, 39, 41, 42, 49, 54, 55, 57, 58, 59, 73, 79, 81, 84, 87, 139] Try.f72 [([2, 3, 4], []), ([6], [])] = some (x_inewSearcher, r_inewSearcher) := by kernel_rfl
def us_inewSearcher :=  (aI @u72_0 @u72_1)
abbrev b98_1 : X := (.cond (.t 34) (.seq (.reg [4, 5] (.c (.q 42 [] (.mv (.t 1))) (.c (.q 43 [] (.bld [(S []), (.int .i64 0), (.int .i64 0)] [(0, 0, (.t 42)), (1, 0, (.c (.int .i64 3))), (2, 0, (.c (.int .i64 0)))])) (.c (.q 44 [] (.mv (.t 7))) (.c (.q 45 [] (.mv (.t 0))) (.c (.q 46 [] (.nil (.t 45))) (.c (.q 47 [] (.fa 0 (.t 46))) (.c (.q 48 [] (.fa 1 (.t 47))) (.c (.q 49 [] (.ld (.t 48))) (.c (.e (some 50) [] (.call false 44 [(.t 49)])) (.c (.q 51 [] (.bin .neq (.t 44) (.t 50))) (.c (.e none [] (.st 3 (.t 4) (.t 43))) (.c (.q 5 [] (.mv (.t 51))) .nil))))))))))))) .ret) .skip)
def t98_1 := b98_1
theorem u98_1 : vcK P t98_1 k e w = vcK P b98_1 k e w := rfl
abbrev b98_2 : X := (.cond (.t 25) (.seq (.drw [4, 5] (.c (.q 28 [] (.bld [(S []), (.int .i64 0), (.int .i64 0)] [(0, 0, (.s [])), (1, 0, (.c (.int .i64 1))), (2, 0, (.c (.int .i64 0)))])) (.c (.q 29 [] (.mv (.t 0))) (.c (.q 30 [] (.nil (.t 29))) (.c (.q 31 [] (.fa 6 (.t 30))) (.alt (.c (.p 32 [] (.ld (.t 31))) (.c (.q 33 [] (.not (.t 32))) (.c (.e none [] (.st 3 (.t 4) (.t 28))) (.c (.q 5 [] (.mv (.t 33))) .nil)))) (.c (.e none [] (.st 3 (.t 4) (.t 28))) (.c (.p 32 [] (.ld (.t 31))) (.c (.q 33 [] (.not (.t 32))) (.c (.q 5 [] (.mv (.t 33))) .nil)))))))))) .ret) (.seq (.reg [0, 1, 4, 6, 7, 34] (.c (.q 35 [] (.mv (.t 1))) (.c (.q 36 [] (.len (.t 35))) (.c (.q 37 [] (.mv (.t 0))) (.c (.q 38 [] (.nil (.t 37))) (.c (.q 39 [] (.fa 5 (.t 38))) (.c (.q 40 [] (.ld (.t 39))) (.c (.q 41 [] (.bin .eql (.t 36) (.t 40))) (.c (.q 34 [] (.mv (.t 41))) .nil))))))))) t98_1))
def t98_2 := b98_2
theorem u98_2 : vcK P t98_2 k e w = vcK P b98_2 k e w := rfl
abbrev b98_3 : X := (.cond (.t 70) (.seq (.reg [4, 5] (.c (.q 71 [] (.mv (.t 1))) (.c (.q 72 [] (.mv (.t 8))) (.c (.q 73 [] (.bld [(S []), (.int .i64 0), (.int .i64 0)] [(0, 0, (.t 71)), (1, 0, (.c (.int .i64 2))), (2, 0, (.t 72))])) (.c (.e none [] (.st 3 (.t 4) (.t 73))) (.c (.q 5 [] (.mv (.c (.bool true)))) .nil)))))) .ret) .skip)
def t98_3 := b98_3
theorem u98_3 : vcK P t98_3 k e w = vcK P b98_3 k e w := rfl
abbrev b98_4 : X := (.seq (.drw [0, 1, 4, 7, 8, 55, 56, 57, 70] (.c (.q 62 [] (.mv (.t 0))) (.c (.q 63 [] (.nil (.t 62))) (.c (.q 64 [] (.fa 7 (.t 63))) (.c (.q 65 [] (.ld (.t 64))) (.c (.q 66 [] (.mv (.t 9))) (.c (.q 68 [] (.mv (.t 7))) (.c (.e (some 67) [] (.call false 109 [(.t 66)])) (.c (.e (some 69) [] (.call false 90 [(.t 67), (.t 68)])) (.c (.q 70 [] (.mlk false .string (.bool false) (.t 65) (.t 69))) .nil)))))))))) t98_3)
def t98_4 := b98_4
theorem u98_4 : vcK P t98_4 k e w = vcK P b98_4 k e w := rfl
abbrev b98_5 : X := (.reg [0, 1, 4, 7, 55, 56, 57] (.c (.q 74 [] (.bin .add (.t 57) (.c (.int .i64 1)))) (.c (.q 57 [] (.mv (.t 74))) .nil)))
def t98_5 := b98_5
theorem u98_5 : vcK P t98_5 k e w = vcK P b98_5 k e w := rfl
abbrev b98_6 : X := (.seq (.blk 2 (.seq (.reg [0, 1, 4, 7, 8, 9, 55, 56, 57] (.c (.q 59 [] (.mv (.t 57))) (.c (.q 60 [] (.ia 1 (.t 55) (.t 57))) (.c (.q 61 [] (.ld (.t 60))) (.c (.q 8 [] (.mv (.t 59))) (.c (.q 9 [] (.mv (.t 61))) .nil)))))) t98_4)) t98_5)
def t98_6 := b98_6
theorem u98_6 : vcK P t98_6 k e w = vcK P b98_6 k e w := rfl
abbrev b98_7 : X := (.seq (.cond (.t 58) .skip (.exit 1)) t98_6)
def t98_7 := b98_7
theorem u98_7 : vcK P t98_7 k e w = vcK P b98_7 k e w := rfl
abbrev b98_8 : X := (.seq (.reg [0, 1, 4, 7, 55, 56, 57, 58] (.c (.q 58 [] (.bin .lss (.t 57) (.t 56))) .nil)) t98_7)
def t98_8 := b98_8
theorem u98_8 : vcK P t98_8 k e w = vcK P b98_8 k e w := rfl
abbrev b98_9 : X := (.blk 1 (.loop [57] [0, 1, 4, 7, 55, 56] t98_8))
def t98_9 := b98_9
theorem u98_9 : vcK P t98_9 k e w = vcK P b98_9 k e w := rfl
abbrev b98_10 : X := (.seq (.reg [4, 5] (.c (.q 75 [] (.bld [(S []), (.int .i64 0), (.int .i64 0)] [])) (.c (.e none [] (.st 3 (.t 4) (.t 75))) (.c (.q 5 [] (.mv (.c (.bool false)))) .nil)))) .ret)
def t98_10 := b98_10
theorem u98_10 : vcK P t98_10 k e w = vcK P b98_10 k e w := rfl
abbrev b98_11 : X := (.seq (.seq (.reg [0, 1, 4, 7, 55, 56, 57] (.c (.q 52 [] (.mv (.t 6))) (.c (.q 53 [] (.mv (.t 1))) (.c (.q 54 [] (.len (.t 53))) (.c (.q 55 [] (.ssl 1 (.t 52) none (some (.t 54)))) (.c (.q 56 [] (.lens (.t 55))) (.c (.q 57 [] (.mv (.c (.int .i64 0)))) .nil))))))) t98_9) t98_10)
def t98_11 := b98_11
theorem u98_11 : vcK P t98_11 k e w = vcK P b98_11 k e w := rfl
abbrev b98_12 : X := (.seq (.blk 0 (.seq (.reg [0, 1, 4, 6, 7, 25] (.c (.q 26 [] (.mv (.t 1))) (.c (.q 27 [] (.bin .eql (.t 26) (.s []))) (.c (.q 25 [] (.mv (.t 27))) .nil)))) t98_2)) t98_11)
def t98_12 := b98_12
theorem u98_12 : vcK P t98_12 k e w = vcK P b98_12 k e w := rfl
abbrev b98_13 : X := (.seq (.reg [0, 1, 4, 6, 7] (.c (.q 20 [] (.mv (.t 6))) (.c (.q 21 [] (.mv (.t 1))) (.c (.q 22 [] (.len (.t 21))) (.c (.q 23 [] (.ia 1 (.t 20) (.t 22))) (.c (.q 24 [] (.ld (.t 23))) (.c (.q 7 [] (.mv (.t 24))) .nil))))))) t98_12)
def t98_13 := b98_13
theorem u98_13 : vcK P t98_13 k e w = vcK P b98_13 k e w := rfl
abbrev b98_14 : X := (.seq (.drw [0, 1, 4, 6] (.c (.q 10 [] (.mv (.t 0))) (.c (.q 11 [] (.nil (.t 10))) (.c (.q 12 [] (.fa 0 (.t 11))) (.c (.q 13 [] (.lda 3 (.t 12))) (.c (.q 14 [] (.mv (.t 0))) (.c (.q 15 [] (.nil (.t 14))) (.c (.q 16 [] (.fa 3 (.t 15))) (.c (.q 17 [] (.lda 2 (.t 16))) (.c (.q 18 [] (.mv (.t 1))) (.c (.e (some 19) [] (.call false 62 [(.t 13), (.t 17), (.t 18)])) (.c (.q 6 [] (.mv (.t 19))) .nil)))))))))))) t98_13)
def t98_14 := b98_14
theorem u98_14 : vcK P t98_14 k e w = vcK P b98_14 k e w := rfl
abbrev b98_0 : X := (.seq (.reg [0, 1, 4] (.c (.e (some 4) [] (.al 108 [(S []), (.int .i64 0), (.int .i64 0)])) (.c (.q 5 [] (.mv (.c (.bool false)))) .nil))) t98_14)
def x_isearcher_cutOf := b98_0
theorem u98_0 : vcK P x_isearcher_cutOf k e w = vcK P b98_0 k e w := rfl
def r_isearcher_cutOf : List XO := [(.lda 3 (.t 4)), (.mv (.t 5))]
theorem c_isearcher_cutOf : convF Try.prog [38, 39, 41, 42, 49, 54, 55, 57, 58, 59, 73, 79, 81, 84, 87, 139] Try.f98 [([0, 1, 4], []), ([0, 1, 4, 6], []), ([0, 1, 4, 6, 7], []), ([0, 1, 4, 6, 7, 25], []), ([4, 5], []), ([0, 1, 4, 6, 7, 34], []), ([4, 5], []), ([0, 1, 4, 7, 55, 56, 57], []), ([57], [0, 1, 4, 7, 55, 56]), ([0, 1, 4, 7, 55, 56, 57, 58], []), ([0, 1, 4, 7, 8, 9, 55, 56, 57], []), ([0, 1, 4, 7, 8, 55, 56, 57, 70], []), ([4, 5], []), ([0, 1, 4, 7, 55, 56, 57], []), ([4, 5], [])] = some (x_isearcher_cutOf, r_isearcher_cutOf) := by kernel_rfl
def us_isearcher_cutOf :=  (aI (aI (aI @u98_0 (aI @u98_1 @u98_2)) (aI (aI @u98_3 @u98_4) (aI @u98_5 @u98_6))) (aI (aI (aI @u98_7 @u98_8) (aI @u98_9 @u98_10)) (aI (aI @u98_11 @u98_12) (aI @u98_13 @u98_14))))
abbrev b73_1 : X := (.cond (.t 11) (.seq (.reg [] (.c (.q 12 [] (.mv (.t 0))) (.c (.q 13 [] (.nil (.t 12))) (.c (.q 14 [] (.fa 9 (.t 13))) (.c (.q 15 [] (.fa 2 (.t 14))) (.c (.e none [] (.st 1 (.t 15) (.c (.bool false)))) .nil)))))) .ret) .skip)
def t73_1 := b73_1
theorem u73_1 : vcK P t73_1 k e w = vcK P b73_1 k e w := rfl
abbrev b73_2 : X := (.cond (.t 29) (.seq (.drw [] (.c (.q 30 [] (.mv (.t 0))) (.c (.q 31 [] (.mv (.t 0))) (.c (.q 32 [] (.nil (.t 31))) (.c (.q 33 [] (.fa 9 (.t 32))) (.c (.q 34 [] (.fa 1 (.t 33))) (.c (.q 35 [] (.ld (.t 34))) (.c (.q 36 [] (.lda 3 (.t 4))) (.c (.e (some 37) [] (.bsl 108 3 [(.t 36)])) (.c (.e (some 38) [] (.app 50 108 3 32 [(S []), (.int .i64 0), (.int .i64 0)] 50 (.t 35) (.t 37))) (.c (.q 39 [] (.nil (.t 30))) (.c (.q 40 [] (.fa 9 (.t 39))) (.c (.q 41 [] (.fa 1 (.t 40))) (.c (.e none [] (.st 1 (.t 41) (.t 38))) .nil)))))))))))))) .ret) .skip)
def t73_2 := b73_2
theorem u73_2 : vcK P t73_2 k e w = vcK P b73_2 k e w := rfl
abbrev b73_3 : X := (.seq (.reg [0, 1, 4, 29] (.c (.q 29 [] (.mv (.t 5))) .nil)) t73_2)
def t73_3 := b73_3
theorem u73_3 : vcK P t73_3 k e w = vcK P b73_3 k e w := rfl
abbrev b73_4 : X := (.cond (.t 48) (.seq (.reg [] (.c (.q 49 [] (.mv (.t 0))) (.c (.q 50 [] (.mv (.t 0))) (.c (.q 51 [] (.nil (.t 50))) (.c (.q 52 [] (.fa 9 (.t 51))) (.c (.q 53 [] (.fa 0 (.t 52))) (.c (.q 54 [] (.ld (.t 53))) (.c (.q 55 [] (.mv (.t 1))) (.c (.e (some 56) [] (.bsl 9 1 [(.t 55)])) (.c (.e (some 57) [] (.app 24 9 1 16 [(S [])] 24 (.t 54) (.t 56))) (.c (.q 58 [] (.nil (.t 49))) (.c (.q 59 [] (.fa 9 (.t 58))) (.c (.q 60 [] (.fa 0 (.t 59))) (.c (.e none [] (.st 1 (.t 60) (.t 57))) .nil)))))))))))))) .ret) .skip)
def t73_4 := b73_4
theorem u73_4 : vcK P t73_4 k e w = vcK P b73_4 k e w := rfl
abbrev b73_5 : X := (.reg [0, 1, 61] (.c (.q 64 [] (.mv (.t 0))) (.c (.q 65 [] (.mv (.t 1))) (.c (.q 66 [] (.mv (.t 6))) (.c (.q 67 [] (.mv (.t 6))) (.c (.q 68 [] (.bin .add (.t 67) (.c (.int .i64 1)))) (.c (.q 69 [] (.sub (.s [98, 112, 115]) (some (.t 66)) (some (.t 68)))) (.c (.q 70 [] (.bin .add (.t 65) (.t 69))) (.c (.e (some 71) [] (.call true 73 [(.t 64), (.t 70)])) .nil)))))))))
def t73_5 := b73_5
theorem u73_5 : vcK P t73_5 k e w = vcK P b73_5 k e w := rfl
abbrev b73_6 : X := (.reg [0, 1, 61] (.c (.q 72 [] (.bin .add (.t 61) (.c (.int .i64 1)))) (.c (.q 61 [] (.mv (.t 72))) .nil)))
def t73_6 := b73_6
theorem u73_6 : vcK P t73_6 k e w = vcK P b73_6 k e w := rfl
abbrev b73_7 : X := (.seq (.blk 1 (.seq (.reg [0, 1, 6, 61] (.c (.q 63 [] (.mv (.t 61))) (.c (.q 6 [] (.mv (.t 63))) .nil))) t73_5)) t73_6)
def t73_7 := b73_7
theorem u73_7 : vcK P t73_7 k e w = vcK P b73_7 k e w := rfl
abbrev b73_8 : X := (.seq (.cond (.t 62) .skip (.exit 0)) t73_7)
def t73_8 := b73_8
theorem u73_8 : vcK P t73_8 k e w = vcK P b73_8 k e w := rfl
abbrev b73_9 : X := (.seq (.reg [0, 1, 61, 62] (.c (.q 62 [] (.bin .lss (.t 61) (.c (.int .i64 3)))) .nil)) t73_8)
def t73_9 := b73_9
theorem u73_9 : vcK P t73_9 k e w = vcK P b73_9 k e w := rfl
abbrev b73_10 : X := (.blk 0 (.loop [61] [0, 1] t73_9))
def t73_10 := b73_10
theorem u73_10 : vcK P t73_10 k e w = vcK P b73_10 k e w := rfl
abbrev b73_11 : X := (.seq (.reg [0, 1, 61] (.c (.q 61 [] (.mv (.c (.int .i64 0)))) .nil)) t73_10)
def t73_11 := b73_11
theorem u73_11 : vcK P t73_11 k e w = vcK P b73_11 k e w := rfl
abbrev b73_12 : X := (.seq (.seq (.reg [0, 1, 48] (.c (.q 42 [] (.mv (.t 1))) (.c (.q 43 [] (.len (.t 42))) (.c (.q 44 [] (.mv (.t 0))) (.c (.q 45 [] (.nil (.t 44))) (.c (.q 46 [] (.fa 5 (.t 45))) (.c (.q 47 [] (.ld (.t 46))) (.c (.q 48 [] (.bin .eql (.t 43) (.t 47))) .nil)))))))) t73_4) t73_11)
def t73_12 := b73_12
theorem u73_12 : vcK P t73_12 k e w = vcK P b73_12 k e w := rfl
abbrev b73_13 : X := (.seq (.seq (.reg [0, 1, 4, 5] (.c (.q 24 [] (.mv (.t 0))) (.c (.q 25 [] (.mv (.t 1))) (.c (.e (some 26) [] (.call false 98 [(.t 24), (.t 25)])) (.c (.q 23 [] (.mv (.t 26))) (.c (.q 27 [] (.ext 0 (.t 23))) (.c (.q 28 [] (.ext 1 (.t 23))) (.c (.e (some 4) [] (.al 108 [(S []), (.int .i64 0), (.int .i64 0)])) (.c (.e none [] (.st 3 (.t 4) (.t 27))) (.c (.q 5 [] (.mv (.t 28))) .nil)))))))))) t73_3) t73_12)
def t73_13 := b73_13
theorem u73_13 : vcK P t73_13 k e w = vcK P b73_13 k e w := rfl
abbrev b73_14 : X := (.seq (.reg [0, 1] (.c (.q 16 [] (.mv (.t 0))) (.c (.q 17 [] (.nil (.t 16))) (.c (.q 18 [] (.fa 8 (.t 17))) (.c (.q 19 [] (.ld (.t 18))) (.c (.q 20 [] (.bin .sub (.t 19) (.c (.int .i64 1)))) (.c (.q 21 [] (.nil (.t 16))) (.c (.q 22 [] (.fa 8 (.t 21))) (.c (.e none [] (.st 1 (.t 22) (.t 20))) .nil))))))))) t73_13)
def t73_14 := b73_14
theorem u73_14 : vcK P t73_14 k e w = vcK P b73_14 k e w := rfl
abbrev b73_0 : X := (.seq (.seq (.reg [0, 1, 11] (.c (.q 7 [] (.mv (.t 0))) (.c (.q 8 [] (.nil (.t 7))) (.c (.q 9 [] (.fa 8 (.t 8))) (.c (.q 10 [] (.ld (.t 9))) (.c (.q 11 [] (.bin .eql (.t 10) (.c (.int .i64 0)))) .nil)))))) t73_1) t73_14)
def x_isearcher_examine := b73_0
theorem u73_0 : vcK P x_isearcher_examine k e w = vcK P b73_0 k e w := rfl
def r_isearcher_examine : List XO := []
theorem c_isearcher_examine : convF Try.prog [38, 39, 41, 42, 49, 54, 55, 57, 58, 59, 73, 79, 81, 84, 87, 139] Try.f73 [([0, 1, 11], []), ([], []), ([0, 1], []), ([0, 1, 4, 5], []), ([0, 1, 4, 29], []), ([], []), ([0, 1, 48], []), ([], []), ([0, 1, 61], []), ([61], [0, 1]), ([0, 1, 61, 62], []), ([0, 1, 6, 61], []), ([0, 1, 61], []), ([0, 1, 61], [])] = some (x_isearcher_examine, r_isearcher_examine) := by kernel_rfl
def us_isearcher_examine :=  (aI (aI (aI @u73_0 (aI @u73_1 @u73_2)) (aI (aI @u73_3 @u73_4) (aI @u73_5 @u73_6))) (aI (aI (aI @u73_7 @u73_8) (aI @u73_9 @u73_10)) (aI (aI @u73_11 @u73_12) (aI @u73_13 @u73_14))))
abbrev b32_1 : X := (.cond (.t 20) (.seq (.reg [8, 9] (.c (.q 21 [] (.bld [(.slice none 0 0), (.slice none 0 0), (.bool false)] [])) (.c (.e none [] (.st 3 (.t 8) (.t 21))) (.c (.q 9 [] (.mv (.c (.bool false)))) .nil)))) .ret) .skip)
def t32_1 := b32_1
theorem u32_1 : vcK P t32_1 k e w = vcK P b32_1 k e w := rfl
abbrev b32_2 : X := (.seq (.reg [8, 9] (.c (.q 36 [] (.mv (.t 10))) (.c (.q 37 [] (.nil (.t 36))) (.c (.q 38 [] (.fa 9 (.t 37))) (.c (.q 39 [] (.lda 3 (.t 38))) (.c (.e none [] (.st 3 (.t 8) (.t 39))) (.c (.q 9 [] (.mv (.c (.bool true)))) .nil))))))) .ret)
def t32_2 := b32_2
theorem u32_2 : vcK P t32_2 k e w = vcK P b32_2 k e w := rfl
abbrev b32_3 : X := (.seq (.reg [8, 10] (.c (.q 34 [] (.mv (.t 10))) (.c (.e (some 35) [] (.call true 73 [(.t 34), (.s [])])) .nil))) t32_2)
def t32_3 := b32_3
theorem u32_3 : vcK P t32_3 k e w = vcK P b32_3 k e w := rfl
abbrev b32_4 : X := (.seq (.reg [8, 10] (.c (.q 26 [] (.mv (.t 10))) (.c (.q 27 [] (.mv (.t 10))) (.c (.q 28 [] (.mv (.t 3))) (.c (.q 29 [] (.nil (.t 26))) (.c (.q 30 [] (.fa 8 (.t 29))) (.c (.e none [] (.st 1 (.t 30) (.t 28))) (.c (.q 31 [] (.nil (.t 27))) (.c (.q 32 [] (.fa 9 (.t 31))) (.c (.q 33 [] (.fa 2 (.t 32))) (.c (.e none [] (.st 1 (.t 33) (.c (.bool true)))) .nil))))))))))) t32_3)
def t32_4 := b32_4
theorem u32_4 : vcK P t32_4 k e w = vcK P b32_4 k e w := rfl
abbrev b32_5 : X := (.seq (.reg [3, 8, 10] (.c (.q 22 [] (.lda 3 (.t 4))) (.c (.q 23 [] (.lda 2 (.t 5))) (.c (.q 24 [] (.mv (.t 2))) (.c (.e (some 25) [] (.call false 72 [(.t 22), (.t 23), (.t 24)])) (.c (.q 10 [] (.mv (.t 25))) .nil)))))) t32_4)
def t32_5 := b32_5
theorem u32_5 : vcK P t32_5 k e w = vcK P b32_5 k e w := rfl
abbrev b32_6 : X := (.seq (.seq (.reg [2, 3, 4, 5, 8, 20] (.c (.q 11 [] (.lda 3 (.t 4))) (.c (.q 12 [] (.lda 2 (.t 5))) (.c (.q 13 [] (.mv (.t 2))) (.c (.e (some 14) [] (.call false 60 [(.t 11), (.t 12), (.t 13)])) (.c (.q 15 [] (.not (.t 14))) (.c (.q 16 [] (.mv (.t 15))) (.c (.q 17 [(16, false)] (.mv (.t 3))) (.c (.e (some 18) [(16, false)] (.call false 71 [(.t 17), (.c (.int .i64 1)), (.c (.int .i64 5000))])) (.c (.q 19 [(16, false)] (.not (.t 18))) (.c (.q 20 [] (.pick (.t 16) (.c (.bool true)) (.t 19))) .nil))))))))))) t32_1) t32_5)
def t32_6 := b32_6
theorem u32_6 : vcK P t32_6 k e w = vcK P b32_6 k e w := rfl
abbrev b32_0 : X := (.seq (.reg [2, 3, 4, 5, 8] (.c (.e (some 4) [] (.box 44 (.t 0))) (.c (.e (some 5) [] (.box 46 (.t 1))) (.c (.e (some 8) [] (.al 52 [(.slice none 0 0), (.slice none 0 0), (.bool false)])) (.c (.q 9 [] (.mv (.c (.bool false)))) .nil))))) t32_6)
def x_iSearchTouches := b32_0
theorem u32_0 : vcK P x_iSearchTouches k e w = vcK P b32_0 k e w := rfl
def r_iSearchTouches : List XO := [(.lda 3 (.t 8)), (.mv (.t 9))]
theorem c_iSearchTouches : convF Try.prog [38, 39, 41, 42, 49, 54, 55, 57, 58, 59, 73, 79, 81, 84, 87, 139] Try.f32 [([2, 3, 4, 5, 8], []), ([2, 3, 4, 5, 8, 20], []), ([8, 9], []), ([3, 8, 10], []), ([8, 10], []), ([8, 10], []), ([8, 9], [])] = some (x_iSearchTouches, r_iSearchTouches) := by kernel_rfl
def us_iSearchTouches :=  (aI (aI @u32_0 (aI @u32_1 @u32_2)) (aI (aI @u32_3 @u32_4) (aI @u32_5 @u32_6)))
end
/-- A cut. -/
structure CU where
  p : Bs
  why : Int
  wth : Int
def CU.nil : CU := ⟨[], 0, 0⟩
def fCu (c : CU) : List Value := [S c.p, .int .i64 c.why, .int .i64 c.wth]
theorem fCu_len (c : CU) : (fCu c).length = 3 := rfl
theorem fCu_one : ∀ c : CU, ∀ u ∈ fCu c, u.oneCell' = true := fun c u h => by simp only [fCu, List.mem_cons, List.not_mem_nil, or_false] at h; rcases h with rfl | rfl | rfl <;> rfl
/-- The cells of a searcher. -/
def fSe (nm : Bs) (st : Int) (v : Value) (b s : Bs) (n : Int) (t : Bool) (m : Value) (left : Int) (vt vc : Value) (c : Bool) : List Value := [S nm, .int .i64 st, v, S b, S s, .int .i64 n, .bool t, m, .int .i64 left, vt, vc, .bool c]
theorem inewSearcher_ok (nm : Bs) (st : Nat) (v : Value) (cs : List Bs) (b s : Bs) (n : Int) (hm : IsMethod nm st cs) (w : World) (h : Sq fS 1 w v cs) : Fn 72 [mV nm st v, kV b s, .int .i64 n] w (fun r w' => ∃ b0 m L, r = .pointer (some ⟨b0, 0, none⟩) ∧ Blk w' b0 (fSe nm st v b s n (decide (leadR st cs).Nodup) (.map (some m)) 0 (.slice none 0 0) (.slice none 0 0) false) 95 ∧ SetAt w' m L ∧ (w.heap.size ≤ b0 ∧ w.heap.size ≤ m) ∧ ∀ x, x ∈ L ↔ x ∈ falseL (leadR st cs) (leadR st cs)) := by
  (refine callsV_of mix Try.func72 c_inewSearcher ?_; simp only [↓vsd, vsn, gW, qd, qv, ev, pick, argE, zipE, ne_eq, eq_self, forall_const, implies_true, if_true, if_false, reduceIte, reduceCtorEq, Nat.reduceEqDiff, Nat.reduceAdd, Nat.reduceLT, ↓us_inewSearcher, r_inewSearcher])
  refine m_al ?_
  rintro b1 w1 hb1 hblk1 hx1 hs1
  have h1 : Blk w1 b1 (fM nm st v) 44 := hblk1
  simp only [↓vsd, vsn, gW, qd, qv, ev, pick, argE, zipE, ne_eq, eq_self, forall_const, implies_true, if_true, if_false, reduceIte, reduceCtorEq, Nat.reduceEqDiff, Nat.reduceAdd, Nat.reduceLT, ↓us_inewSearcher, r_inewSearcher, h1.facts, fMg]
  refine m_al ?_
  rintro b2 w2 hb2 hblk2 hx2 hs2
  have h2 : Blk w2 b2 (fQ b s) 46 := hblk2
  have h12 := h1.ext hx2
  have hx12 := hx1.trans hx2
  simp only [↓vsd, vsn, gW, qd, qv, ev, pick, argE, zipE, ne_eq, eq_self, forall_const, implies_true, if_true, if_false, reduceIte, reduceCtorEq, Nat.reduceEqDiff, Nat.reduceAdd, Nat.reduceLT, ↓us_inewSearcher, r_inewSearcher, h12.facts, h2.facts, fMg, fQg]
  refine m_call (ileadTrue_ok nm st v cs hm _ (by first | exact h.ext hx12 | exact h.ext (dr hx12))) ?_
  rintro _ w3 hx3 rfl
  have hx3 : Ext w2 w3 := by first | exact hx3 | exact ud hx3 | exact ud (ud hx3)
  have hx13 := hx12.trans hx3
  simp only [↓vsd, vsn, gW, qd, qv, ev, pick, argE, zipE, ne_eq, eq_self, forall_const, implies_true, if_true, if_false, reduceIte, reduceCtorEq, Nat.reduceEqDiff, Nat.reduceAdd, Nat.reduceLT, ↓us_inewSearcher, r_inewSearcher]
  refine m_call (ifalseSet_ok nm st v cs hm _ (by first | exact h.ext hx13 | exact h.ext (dr hx13))) ?_
  rintro _ w4 hx4 ⟨m, L, rfl, hset, hmlo, hL⟩
  have hx4 : Ext w3 w4 := by first | exact hx4 | exact ud hx4 | exact ud (ud hx4)
  have hx14 := hx13.trans hx4
  have hz3 := hx13.size
  have hz4 := hx14.size
  simp only [↓vsd, vsn, gW, qd, qv, ev, pick, argE, zipE, ne_eq, eq_self, forall_const, implies_true, if_true, if_false, reduceIte, reduceCtorEq, Nat.reduceEqDiff, Nat.reduceAdd, Nat.reduceLT, ↓us_inewSearcher, r_inewSearcher]
  refine ⟨⟨rfl, rfl⟩, m_al ?_⟩
  rintro b5 w5 hb5 hblk5 hx5 hs5
  simp only [↓vsd, vsn, gW, qd, qv, ev, pick, argE, zipE, ne_eq, eq_self, forall_const, implies_true, if_true, if_false, reduceIte, reduceCtorEq, Nat.reduceEqDiff, Nat.reduceAdd, Nat.reduceLT, ↓us_inewSearcher, r_inewSearcher]
  exact ⟨hx14.trans hx5, b5, m, L, rfl, hblk5, hset.ext hx5, ⟨by omega, by first | omega | (have := hmlo; simp at this; omega)⟩, hL⟩
theorem fSeg (nm : Bs) (st : Int) (v : Value) (b s : Bs) (n : Int) (t : Bool) (m : Value) (left : Int) (vt vc : Value) (c : Bool) : (∀ u, (fSe nm st v b s n t m left vt vc c).getD 0 u = S nm) ∧ (∀ u, (fSe nm st v b s n t m left vt vc c).getD 1 u = .int .i64 st) ∧ (∀ u, (fSe nm st v b s n t m left vt vc c).getD 2 u = v) ∧ (∀ u, (fSe nm st v b s n t m left vt vc c).getD 3 u = S b) ∧ (∀ u, (fSe nm st v b s n t m left vt vc c).getD 4 u = S s) ∧ (∀ u, (fSe nm st v b s n t m left vt vc c).getD 5 u = .int .i64 n) ∧ (∀ u, (fSe nm st v b s n t m left vt vc c).getD 6 u = .bool t) ∧ (∀ u, (fSe nm st v b s n t m left vt vc c).getD 7 u = m) ∧ (∀ u, (fSe nm st v b s n t m left vt vc c).getD 8 u = .int .i64 left) ∧ (∀ u, (fSe nm st v b s n t m left vt vc c).getD 9 u = vt) ∧ (∀ u, (fSe nm st v b s n t m left vt vc c).getD 10 u = vc) ∧ (∀ u, (fSe nm st v b s n t m left vt vc c).getD 11 u = .bool c) ∧ (fSe nm st v b s n t m left vt vc c).length = 12 := ⟨fun _ => rfl, fun _ => rfl, fun _ => rfl, fun _ => rfl, fun _ => rfl, fun _ => rfl, fun _ => rfl, fun _ => rfl, fun _ => rfl, fun _ => rfl, fun _ => rfl, fun _ => rfl, rfl⟩
/-- A part of a block. -/
theorem Blk.part {w : World} {b : Nat} {cs : List Value} {T : TypeId} (h : Blk w b cs T) (o n : Nat) (hn : o + n ≤ cs.length) : ldaV w n (.pointer (some ⟨b, o, none⟩)) = .agg ⟨(cs.drop o).take n⟩ ∧ ldaD w n (.pointer (some ⟨b, o, none⟩)) = True := by
  refine ⟨?_, eq_true fun j hj => by rw [Addr.add_lit, h.cell, List.getElem?_eq_getElem (by omega)]; exact Option.some_ne_none _⟩
  simp only [ldaV]
  congr 1
  apply Array.ext'
  apply List.ext_getElem?
  intro j
  by_cases hj : j < n
  · have h2 : o + j < cs.length := by omega
    simp [Addr.add_lit, h.cell, hj, List.getElem?_take, h2]
  · simp [hj, List.getElem?_take]
theorem Blk.se {w : World} {b0 : Nat} {nm : Bs} {st : Int} {v : Value} {b s : Bs} {n : Int} {t : Bool} {m : Value} {left : Int} {vt vc : Value} {c : Bool} {T : TypeId} (h : Blk w b0 (fSe nm st v b s n t m left vt vc c) T) : (ldaV w 3 (.pointer (some ⟨b0, 0, none⟩)) = mV nm st v ∧ ldaD w 3 (.pointer (some ⟨b0, 0, none⟩)) = True) ∧ (ldaV w 2 (.pointer (some ⟨b0, 3, none⟩)) = kV b s ∧ ldaD w 2 (.pointer (some ⟨b0, 3, none⟩)) = True) ∧ (ldaV w 3 (.pointer (some ⟨b0, 9, none⟩)) = .agg ⟨[vt, vc, .bool c]⟩ ∧ ldaD w 3 (.pointer (some ⟨b0, 9, none⟩)) = True) :=
  ⟨h.part 0 3 (Nat.le_of_ble_eq_true rfl), h.part 3 2 (Nat.le_of_ble_eq_true rfl), h.part 9 3 (Nat.le_of_ble_eq_true rfl)⟩
theorem Blk.cu {w : World} {b0 : Nat} {c : CU} {T : TypeId} (h : Blk w b0 (fCu c) T) : ldaV w 3 (.pointer (some ⟨b0, 0, none⟩)) = .agg ⟨fCu c⟩ ∧ ldaD w 3 (.pointer (some ⟨b0, 0, none⟩)) = True := h.part 0 3 (Nat.le_refl 3)
/-- A searcher at b0 with its set at m0, over the world W. -/
structure SrAt (W : World) (nm : Bs) (st : Nat) (v : Value) (cs : List Bs) (b s : Bs) (n : Nat) (b0 m0 : Nat) (left : Int) (vt vc : Value) (T : List Bs) (C : List CU) (w : World) : Prop where
  blk : Blk w b0 (fSe nm st v b s n (decide (leadR st cs).Nodup) (.map (some m0)) left vt vc true) 95
  set : ∃ L, SetAt w m0 L ∧ ∀ x, x ∈ L ↔ x ∈ falseL (leadR st cs) (leadR st cs)
  ext : Ext W w
  lo : W.heap.size ≤ b0 ∧ W.heap.size ≤ m0
  sq : Sq fS 1 W v cs
  mc : IsMC nm st cs b s ∧ 1 ≤ n ∧ n ≤ 6
  ts : Own fS 1 9 W.heap.size w vt T
  cu : Own fCu 3 108 W.heap.size w vc C
section
variable {W : World} {nm : Bs} {st : Nat} {v : Value} {cs : List Bs} {b s : Bs} {n b0 m0 : Nat} {left : Int} {vt vc : Value} {T : List Bs} {C : List CU} {w w' : World}
theorem SrAt.go (h : SrAt W nm st v cs b s n b0 m0 left vt vc T C w) (hx : Ext w w') : SrAt W nm st v cs b s n b0 m0 left vt vc T C w' := by
  obtain ⟨L, hs, hL⟩ := h.set
  exact ⟨h.blk.ext hx, ⟨L, hs.ext hx, hL⟩, h.ext.trans hx, h.lo, h.sq, h.mc, h.ts.ext hx, h.cu.ext hx⟩
end
theorem isearcher_cutOf_ok (W : World) (nm : Bs) (st : Nat) (v : Value) (cs : List Bs) (b s : Bs) (n b0 m0 : Nat) (left : Int) (vt vc : Value) (T : List Bs) (C : List CU) (p : Bs) (hp : p.length ≤ n) (hpc : ∀ c ∈ p, IsCall [c]) (w : World) (h : SrAt W nm st v cs b s n b0 m0 left vt vc T C w) : Fn 98 [.pointer (some ⟨b0, 0, none⟩), S p] w (fun r _ => ∃ c : CU, r = .tuple ⟨[.agg ⟨fCu c⟩, .bool (cutB st cs b s n p)]⟩) := by
  have hM := h.mc.1
  have hn := h.mc.2
  have hst := hM.1.2.1
  (refine callsV_of mix Try.func98 c_isearcher_cutOf ?_; simp only [↓vsd, vsn, gW, qd, qv, ev, pick, argE, zipE, ne_eq, eq_self, forall_const, implies_true, if_true, if_false, reduceIte, reduceCtorEq, Nat.reduceEqDiff, Nat.reduceAdd, Nat.reduceLT, ↓us_isearcher_cutOf, r_isearcher_cutOf])
  refine m_al ?_
  rintro b1 w1 hb1 hblk1 hx1 hs1
  have h1 := h.go hx1
  have hse := h1.blk.se
  simp only [↓vsd, vsn, gW, qd, qv, ev, pick, argE, zipE, ne_eq, eq_self, forall_const, implies_true, if_true, if_false, reduceIte, reduceCtorEq, Nat.reduceEqDiff, Nat.reduceAdd, Nat.reduceLT, ↓us_isearcher_cutOf, r_isearcher_cutOf, hse, h1.blk.facts, fSeg]
  refine m_call (iheads_ok nm st v cs b s p hM ⟨by omega, hpc⟩ _ (by first | exact h.sq.ext (h1.ext) | exact h.sq.ext (dr h1.ext))) ?_
  rintro y w2 hx2 ho2
  have hx2 : Ext w1 w2 := by first | exact hx2 | exact ud hx2 | exact ud (ud hx2)
  have h2 := h1.go hx2
  have hq2 := ho2.sq
  have a2 := hq2.at1 [] (i := p.length) (by rw [headsP_len]; omega)
  rw [headsP_get _ _ _ _ _ _ _ (Nat.lt_succ_self _)] at a2
  have hb2 := hblk1.ext hx2
  have hc1 : ∀ u ∈ (Value.agg ⟨fCu CU.nil⟩).cells.toList, u.oneCell' = true := fCu_one _
  by_cases hp0 : p = []
  · have hp0D := decide_eq_true hp0
    have hcut : cutB st cs b s n p = !decide (leadR st cs).Nodup := by rw [cutB, if_pos hp0, decide_not]
    simp only [↓vsd, vsn, gW, qd, qv, ev, pick, argE, zipE, ne_eq, eq_self, forall_const, implies_true, if_true, if_false, reduceIte, reduceCtorEq, Nat.reduceEqDiff, Nat.reduceAdd, Nat.reduceLT, ↓us_isearcher_cutOf, r_isearcher_cutOf, hq2.facts, headsP_len, a2, h2.blk.facts, fSeg, hp0D]
    refine ⟨by omega, ?_, ?_⟩
    all_goals
      refine m_st (by first | exact hb2 | exact hb2.ext (dr (Ext.refl _))) rfl (by decide) (fCu_one ⟨[], 1, 0⟩) ?_
      rintro w3 hb3 hu3
      have hb3 : Blk w3 b1 (fCu ⟨[], 1, 0⟩) 108 := hb3
      have hbl := h.blk.lt
      have hs3 : Blk w3 b0 (fSe nm st v b s n (decide (leadR st cs).Nodup) (.map (some m0)) left vt vc true) 95 := by first | exact hu3.blk h2.blk (by omega) | exact hu3.blk (h2.blk.ext (dr (Ext.refl _))) (by omega)
      have hl3 := hb3.cu
      simp only [↓vsd, vsn, gW, qd, qv, ev, pick, argE, zipE, ne_eq, eq_self, forall_const, implies_true, if_true, if_false, reduceIte, reduceCtorEq, Nat.reduceEqDiff, Nat.reduceAdd, Nat.reduceLT, ↓us_isearcher_cutOf, r_isearcher_cutOf, hl3, hs3.facts, fSeg]
      exact ⟨hu3.below (by first | exact hx1.trans hx2 | exact dr (hx1.trans hx2)) (by omega), ⟨[], 1, 0⟩, by first | (rw [hcut]; done) | (rw [hcut]; rfl)⟩
  · by_cases hpn : p.length = n
    · have hpnI : ((p.length : Nat) : Int) = n := by omega
      have hpnD := decide_eq_true hpnI
      have hcut : cutB st cs b s n p = decide (headP st cs b s p p.length ≠ roundsL st) := by rw [cutB, if_neg hp0, if_pos hpn]
      simp only [↓vsd, vsn, gW, qd, qv, ev, pick, argE, zipE, ne_eq, eq_self, forall_const, implies_true, if_true, if_false, reduceIte, reduceCtorEq, Nat.reduceEqDiff, Nat.reduceAdd, Nat.reduceLT, ↓us_isearcher_cutOf, r_isearcher_cutOf, hq2.facts, headsP_len, a2, h2.blk.facts, fSeg, hp0, hpnD]
      refine ⟨⟨by omega, by omega⟩, m_call (irounds_ok st (by omega) _) ?_⟩
      rintro _ w3 hx3 rfl
      have hx3 : Ext w2 w3 := by first | exact hx3 | exact ud hx3 | exact ud (ud hx3)
      have hb3 := hb2.ext hx3
      simp only [↓vsd, vsn, gW, qd, qv, ev, pick, argE, zipE, ne_eq, eq_self, forall_const, implies_true, if_true, if_false, reduceIte, reduceCtorEq, Nat.reduceEqDiff, Nat.reduceAdd, Nat.reduceLT, ↓us_isearcher_cutOf, r_isearcher_cutOf]
      refine m_st (by first | exact hb3 | exact hb3.ext (dr (Ext.refl _))) rfl (by decide) (fCu_one ⟨p, 3, 0⟩) ?_
      rintro w4 hb4 hu4
      have hb4 : Blk w4 b1 (fCu ⟨p, 3, 0⟩) 108 := hb4
      have hl4 := hb4.cu
      simp only [↓vsd, vsn, gW, qd, qv, ev, pick, argE, zipE, ne_eq, eq_self, forall_const, implies_true, if_true, if_false, reduceIte, reduceCtorEq, Nat.reduceEqDiff, Nat.reduceAdd, Nat.reduceLT, ↓us_isearcher_cutOf, r_isearcher_cutOf, hl4]
      exact ⟨hu4.below (by first | exact (hx1.trans hx2).trans hx3 | exact dr ((hx1.trans hx2).trans hx3)) (by omega), ⟨p, 3, 0⟩, by first | (rw [hcut]; done) | (rw [hcut]; rfl)⟩
    · have hpnI : ¬ ((p.length : Nat) : Int) = n := by omega
      obtain ⟨hd, hoh, _⟩ := ho2.head .i64 p.length (by rw [headsP_len]; omega)
      rw [headsP_take] at hoh
      have hqh := hoh.sq
      have hql := hqh.facts
      rw [headsP_len] at hql
      simp only [↓vsd, vsn, gW, qd, qv, ev, pick, argE, zipE, ne_eq, eq_self, forall_const, implies_true, if_true, if_false, reduceIte, reduceCtorEq, Nat.reduceEqDiff, Nat.reduceAdd, Nat.reduceLT, ↓us_isearcher_cutOf, r_isearcher_cutOf, hq2.facts, headsP_len, a2, h2.blk.facts, fSeg, hp0, hpnI, hd]
      generalize sslV 1 y none (some (.int .i64 (p.length : Nat))) = z at *
      simp only [↓vsd, vsn, gW, qd, qv, ev, pick, argE, zipE, ne_eq, eq_self, forall_const, implies_true, if_true, if_false, reduceIte, reduceCtorEq, Nat.reduceEqDiff, Nat.reduceAdd, Nat.reduceLT, ↓us_isearcher_cutOf, r_isearcher_cutOf, hql]
      refine ⟨⟨by omega, by omega⟩, ?_⟩
      obtain ⟨L, hset, hL⟩ := h2.set
      have hql' := hql
      refine m_upto p.length (fun i vs w' => vs = [.int .i64 i] ∧ Ext w2 w' ∧ ∀ j < i, ¬ timesL (turnL (headP st cs b s p j)) (headP st cs b s p p.length) ∈ falseL (leadR st cs) (leadR st cs)) ⟨rfl, Ext.refl _, fun j hj => by omega⟩ ?_
      rintro i vs w3 hi ⟨rfl, hx3, hno⟩
      have hq3 := hqh.ext hx3
      have hql3 := hq3.facts
      rw [headsP_len] at hql3
      have h3 := h2.go hx3
      have hb3 := hb2.ext hx3
      by_cases hli : i < p.length
      · have hliI : (i : Int) < p.length := by omega
        have hliJ : ¬ (p.length : Int) ≤ i := by omega
        have a3 := hq3.at1 [] (i := i) (by rw [headsP_len]; exact hli)
        rw [headsP_get _ _ _ _ _ _ _ hli] at a3
        have hri := headP_row hM p i
        have hrp := headP_row hM p p.length
        have hs3 := hset.ext hx3
        simp only [↓vsd, vsn, gW, qd, qv, ev, pick, argE, zipE, ne_eq, eq_self, forall_const, implies_true, if_true, if_false, reduceIte, reduceCtorEq, Nat.reduceEqDiff, Nat.reduceAdd, Nat.reduceLT, ↓us_isearcher_cutOf, r_isearcher_cutOf, hliI, hql3, a3, h3.blk.facts, fSeg]
        refine ⟨by omega, m_call (iturned_ok _ hri.1 _) ?_⟩
        rintro _ w4 hx4 rfl
        have hx4 : Ext w3 w4 := by first | exact hx4 | exact ud hx4 | exact ud (ud hx4)
        simp only [↓vsd, vsn, gW, qd, qv, ev, pick, argE, zipE, ne_eq, eq_self, forall_const, implies_true, if_true, if_false, reduceIte, reduceCtorEq, Nat.reduceEqDiff, Nat.reduceAdd, Nat.reduceLT, ↓us_isearcher_cutOf, r_isearcher_cutOf]
        refine m_call (itimes_ok _ _ hrp.1 (by rw [turnL_len, hri.2, hrp.2]) _) ?_
        rintro _ w5 hx5 rfl
        have hx5 : Ext w4 w5 := by first | exact hx5 | exact ud hx5 | exact ud (ud hx5)
        have hs5 := hs3.ext (hx4.trans hx5)
        have hb5 := hb3.ext (hx4.trans hx5)
        have hxw5 := ((hx1.trans hx2).trans hx3).trans (hx4.trans hx5)
        have hlk3 := hs3.look (timesL (turnL (headP st cs b s p i)) (headP st cs b s p p.length))
        have hlk5 := hs5.look (timesL (turnL (headP st cs b s p i)) (headP st cs b s p p.length))
        by_cases hin : timesL (turnL (headP st cs b s p i)) (headP st cs b s p p.length) ∈ L
        · have hcut : cutB st cs b s n p = true := by
            rw [cutB, if_neg hp0, if_neg hpn, List.any_eq_true]
            exact ⟨i, List.mem_range.2 hli, decide_eq_true ((hL _).1 hin)⟩
          simp only [↓vsd, vsn, gW, qd, qv, ev, pick, argE, zipE, ne_eq, eq_self, forall_const, implies_true, if_true, if_false, reduceIte, reduceCtorEq, Nat.reduceEqDiff, Nat.reduceAdd, Nat.reduceLT, ↓us_isearcher_cutOf, r_isearcher_cutOf, hlk3, hlk5, hin]
          refine m_st (by first | exact hb5 | exact hb5.ext (dr (Ext.refl _))) rfl (by decide) (fCu_one ⟨p, 2, i⟩) ?_
          rintro w6 hb6 hu6
          have hb6 : Blk w6 b1 (fCu ⟨p, 2, i⟩) 108 := hb6
          have hl6 := hb6.cu
          simp only [↓vsd, vsn, gW, qd, qv, ev, pick, argE, zipE, ne_eq, eq_self, forall_const, implies_true, if_true, if_false, reduceIte, reduceCtorEq, Nat.reduceEqDiff, Nat.reduceAdd, Nat.reduceLT, ↓us_isearcher_cutOf, r_isearcher_cutOf, hl6]
          exact ⟨hu6.below (by first | exact hxw5 | exact dr hxw5) (by omega), ⟨p, 2, i⟩, by first | (rw [hcut]; done) | (rw [hcut]; rfl)⟩
        · have hnf : ¬ timesL (turnL (headP st cs b s p i)) (headP st cs b s p p.length) ∈ falseL (leadR st cs) (leadR st cs) := fun hh => hin ((hL _).2 hh)
          simp only [↓vsd, vsn, gW, qd, qv, ev, pick, argE, zipE, ne_eq, eq_self, forall_const, implies_true, if_true, if_false, reduceIte, reduceCtorEq, Nat.reduceEqDiff, Nat.reduceAdd, Nat.reduceLT, ↓us_isearcher_cutOf, r_isearcher_cutOf, hlk3, hlk5, hin]
          refine ⟨inR_i64 (by omega), UpTo.next hli ⟨rfl, by first | exact hx3.trans (hx4.trans hx5) | exact dr (hx3.trans (hx4.trans hx5)), fun j hj => ?_⟩⟩
          by_cases hji : j = i
          · rw [hji]; exact hnf
          · exact hno j (by omega)
      · obtain rfl : i = p.length := by omega
        have hliI : ¬ ((p.length : Nat) : Int) < p.length := by omega
        have hcut : cutB st cs b s n p = false := by
          rw [cutB, if_neg hp0, if_neg hpn, List.any_eq_false]
          intro j hj
          have := hno j (List.mem_range.1 hj)
          simpa using this
        simp only [↓vsd, vsn, gW, qd, qv, ev, pick, argE, zipE, ne_eq, eq_self, forall_const, implies_true, if_true, if_false, reduceIte, reduceCtorEq, Nat.reduceEqDiff, Nat.reduceAdd, Nat.reduceLT, ↓us_isearcher_cutOf, r_isearcher_cutOf, hliI]
        refine m_st (by first | exact hb3 | exact hb3.ext (dr (Ext.refl _))) rfl (by decide) (fCu_one ⟨[], 0, 0⟩) ?_
        rintro w4 hb4 hu4
        have hb4 : Blk w4 b1 (fCu ⟨[], 0, 0⟩) 108 := hb4
        have hl4 := hb4.cu
        simp only [↓vsd, vsn, gW, qd, qv, ev, pick, argE, zipE, ne_eq, eq_self, forall_const, implies_true, if_true, if_false, reduceIte, reduceCtorEq, Nat.reduceEqDiff, Nat.reduceAdd, Nat.reduceLT, ↓us_isearcher_cutOf, r_isearcher_cutOf, hl4]
        exact ⟨hu4.below (by first | exact (hx1.trans hx2).trans hx3 | exact dr ((hx1.trans hx2).trans hx3)) (by omega), ⟨[], 0, 0⟩, by first | (rw [hcut]; done) | (rw [hcut]; rfl)⟩
theorem Own.apartB {α : Type} {f : α → List Value} {z B c : Nat} {E E' : TypeId} {w : World} {v : Value} {l : List α} {cells : List Value} (ho : Own f z E B w v l) (hb : Blk w c cells E') (hne : E ≠ E') : Away v c := by
  intro e
  rcases ho.2 with ⟨rfl, _⟩ | ⟨g, cap, cur, rfl, _, ⟨fz, hg, _⟩, _⟩
  · cases e
  · simp only [Value.ownBlock, Option.some.injEq] at e
    subst e
    obtain ⟨fz', hb', _⟩ := hb
    rw [hg] at hb'
    injection hb' with hb'
    injection hb' with _ h2 _
    exact hne h2
theorem Own.apartO {α β : Type} {f : α → List Value} {z B : Nat} {E : TypeId} {g : β → List Value} {z' B' : Nat} {E' : TypeId} {w : World} {v u : Value} {l : List α} {k : List β} (ho : Own f z E B w v l) (hu : Own g z' E' B' w u k) (hne : E ≠ E') : ∀ c, u.ownBlock = some c → Away v c := fun c hc => by
  rcases hu.2 with ⟨rfl, _⟩ | ⟨g, cap, cur, rfl, _, hb, _⟩
  · cases hc
  · simp only [Value.ownBlock, Option.some.injEq] at hc
    subst hc
    exact ho.apartB hb hne
theorem SetAt.apartB {w : World} {m b : Nat} {L : List Bs} {cells : List Value} {E : TypeId} (h : SetAt w m L) (hb : Blk w b cells E) : b ≠ m := by
  rintro rfl
  obtain ⟨fz, hb, _⟩ := hb
  simp only [SetAt, mapAt, hb] at h
  cases h
section
variable {W : World} {nm : Bs} {st : Nat} {v : Value} {cs : List Bs} {b s : Bs} {n b0 m0 : Nat} {left left' : Int} {vt vc vt' vc' : Value} {T T' : List Bs} {C C' : List CU} {w w' w'' : World}
theorem SrAt.sto (h : SrAt W nm st v cs b s n b0 m0 left vt vc T C w) (hu : Upd w w' b0) (hb : Blk w' b0 (fSe nm st v b s n (decide (leadR st cs).Nodup) (.map (some m0)) left' vt vc true) 95) : SrAt W nm st v cs b s n b0 m0 left' vt vc T C w' := by
  obtain ⟨L, hs, hL⟩ := h.set
  have hlo := h.lo
  exact ⟨hb, ⟨L, hs.grown hu.grown (fun e => hs.apartB h.blk (Option.some.inj e)), hL⟩, hu.below h.ext (by omega), h.lo, h.sq, h.mc, h.ts.upd hu (h.ts.apartB h.blk (by decide)), h.cu.upd hu (h.cu.apartB h.blk (by decide))⟩
theorem SrAt.appT (h : SrAt W nm st v cs b s n b0 m0 left vt vc T C w) (hg : w.grownBy w' vt.ownBlock) (ho : Own fS 1 9 W.heap.size w' vt' T') :
    Blk w' b0 (fSe nm st v b s n (decide (leadR st cs).Nodup) (.map (some m0)) left vt vc true) 95 ∧ ∀ w'', Upd w' w'' b0 → Blk w'' b0 (fSe nm st v b s n (decide (leadR st cs).Nodup) (.map (some m0)) left vt' vc true) 95 → SrAt W nm st v cs b s n b0 m0 left vt' vc T' C w'' := by
  obtain ⟨L, hs, hL⟩ := h.set
  have hlo := h.lo
  have hb' := h.blk.same (hg.block b0 h.blk.lt (fun e => h.ts.apartB h.blk (by decide) e.symm))
  have hs' := hs.grown hg (fun e => hs.apart h.ts e)
  have hc' := h.cu.off hg (h.cu.apartO h.ts (by decide))
  have hx' : Ext W w' := ext_grow h.ext hg (fun c hc => (h.ts.bound c hc).1)
  refine ⟨hb', fun w'' hu hb => ?_⟩
  exact ⟨hb, ⟨L, hs'.grown hu.grown (fun e => hs'.apartB hb' (Option.some.inj e)), hL⟩, hu.below hx' (by omega), h.lo, h.sq, h.mc, ho.upd hu (ho.apartB hb' (by decide)), hc'.upd hu (hc'.apartB hb' (by decide))⟩
theorem SrAt.appC (h : SrAt W nm st v cs b s n b0 m0 left vt vc T C w) (hg : w.grownBy w' vc.ownBlock) (ho : Own fCu 3 108 W.heap.size w' vc' C') :
    Blk w' b0 (fSe nm st v b s n (decide (leadR st cs).Nodup) (.map (some m0)) left vt vc true) 95 ∧ ∀ w'', Upd w' w'' b0 → Blk w'' b0 (fSe nm st v b s n (decide (leadR st cs).Nodup) (.map (some m0)) left vt vc' true) 95 → SrAt W nm st v cs b s n b0 m0 left vt vc' T C' w'' := by
  obtain ⟨L, hs, hL⟩ := h.set
  have hlo := h.lo
  have hb' := h.blk.same (hg.block b0 h.blk.lt (fun e => h.cu.apartB h.blk (by decide) e.symm))
  have hs' := hs.grown hg (fun e => hs.apart h.cu e)
  have ht' := h.ts.off hg (h.ts.apartO h.cu (by decide))
  have hx' : Ext W w' := ext_grow h.ext hg (fun c hc => (h.cu.bound c hc).1)
  refine ⟨hb', fun w'' hu hb => ?_⟩
  exact ⟨hb, ⟨L, hs'.grown hu.grown (fun e => hs'.apartB hb' (Option.some.inj e)), hL⟩, hu.below hx' (by omega), h.lo, h.sq, h.mc, ht'.upd hu (ht'.apartB hb' (by decide)), ho.upd hu (ho.apartB hb' (by decide))⟩
end
/-- What the search below a prefix leaves. -/
def ExOut (W : World) (nm : Bs) (st : Nat) (v : Value) (cs : List Bs) (b s : Bs) (n b0 m0 : Nat) (left N : Nat) (T : List Bs) (c0 : Nat) (_r : Value) (w' : World) : Prop :=
  ∃ vt vc C, SrAt W nm st v cs b s n b0 m0 ((left - N : Nat) : Int) vt vc T C w' ∧ C.length ≤ c0 + N
theorem Own.cells1 {α : Type} {f : α → List Value} {z B : Nat} {E : TypeId} {w : World} {v : Value} {l : List α} (h : Own f z E B w v l) : v.cells = #[v] := by
  rcases h.2 with ⟨rfl, _⟩ | ⟨g, cap, cur, rfl, _⟩ <;> rfl
theorem one_cells {v : Value} (h : v.cells = #[v]) (h1 : v.oneCell' = true) : ∀ u ∈ v.cells.toList, u.oneCell' = true := fun u hu => by
  rw [h] at hu
  simp only [List.mem_singleton] at hu
  rw [hu]; exact h1
theorem sum_take (g : Bs → Nat) (l : List Bs) (k : Nat) : ((l.take k).map g).sum ≤ (l.map g).sum := by
  have := congrArg (fun l => (l.map g).sum) (List.take_append_drop k l)
  simp only [List.map_append, List.sum_append] at this
  omega
theorem flat_srT (c : Bs → Bool) (f : Nat) (l : List Bs) : (l.flatMap (srT c f)).length ≤ (l.map (srN c f)).sum := by
  induction l with
  | nil => simp
  | cons a l ih => have := srT_len c f a; rw [List.flatMap_cons, List.length_append, List.map_cons, List.sum_cons]; omega
theorem isearcher_examine_ok (W : World) (nm : Bs) (st : Nat) (v : Value) (cs : List Bs) (b s : Bs) (n b0 m0 : Nat) : ∀ (f : Nat) (p : Bs), p.length + f = n → (∀ c ∈ p, IsCall [c]) → ∀ (left : Nat) (vt vc : Value) (T : List Bs) (C : List CU) (w : World), srN (cutB st cs b s n) f p ≤ left → T.length + left ≤ 5000 → C.length + left ≤ 5000 → SrAt W nm st v cs b s n b0 m0 left vt vc T C w →
    CallsV Try.prog 73 [.pointer (some ⟨b0, 0, none⟩), S p] w (ExOut W nm st v cs b s n b0 m0 left (srN (cutB st cs b s n) f p) (T ++ srT (cutB st cs b s n) f p) C.length) := by
  intro f
  induction f with
  | zero =>
    intro p hp hpc left vt vc T C w hlf hTl hCl h
    have hpos := Nat.le_trans (srN_pos (cutB st cs b s n) _ p) hlf
    have hl0 : ¬ (left : Int) = 0 := by omega
    have hn6 := h.mc.2
    (refine callsV_of mix Try.func73 c_isearcher_examine ?_; simp only [↓vsd, vsn, gW, qd, qv, ev, pick, argE, zipE, ne_eq, eq_self, forall_const, implies_true, if_true, if_false, reduceIte, reduceCtorEq, Nat.reduceEqDiff, Nat.reduceAdd, Nat.reduceLT, ↓us_isearcher_examine, r_isearcher_examine])
    simp only [↓vsd, vsn, gW, qd, qv, ev, pick, argE, zipE, ne_eq, eq_self, forall_const, implies_true, if_true, if_false, reduceIte, reduceCtorEq, Nat.reduceEqDiff, Nat.reduceAdd, Nat.reduceLT, ↓us_isearcher_examine, r_isearcher_examine, h.blk.facts, fSeg, hl0]
    refine ⟨inR_i64 (by omega), ?_⟩
    refine m_st h.blk rfl (Nat.le_of_ble_eq_true rfl) (fI_one _) ?_
    rintro w1 hb1 hu1
    have el : (left : Int) - 1 = ((left - 1 : Nat) : Int) := by omega
    have h1 : SrAt W nm st v cs b s n b0 m0 ((left - 1 : Nat) : Int) vt vc T C w1 := h.sto hu1 (by rw [← el]; exact hb1)
    simp only [↓vsd, vsn, gW, qd, qv, ev, pick, argE, zipE, ne_eq, eq_self, forall_const, implies_true, if_true, if_false, reduceIte, reduceCtorEq, Nat.reduceEqDiff, Nat.reduceAdd, Nat.reduceLT, ↓us_isearcher_examine, r_isearcher_examine]
    refine m_call (isearcher_cutOf_ok W nm st v cs b s n b0 m0 _ vt vc T C p (by omega) hpc _ h1) ?_
    rintro _ w2 hx2 ⟨c, rfl⟩
    have h2 := h1.go hx2
    simp only [↓vsd, vsn, gW, qd, qv, ev, pick, argE, zipE, ne_eq, eq_self, forall_const, implies_true, if_true, if_false, reduceIte, reduceCtorEq, Nat.reduceEqDiff, Nat.reduceAdd, Nat.reduceLT, ↓us_isearcher_examine, r_isearcher_examine]
    refine m_al ?_
    rintro b3 w3 hb3 hblk3 hx3 hs3
    simp only [↓vsd, vsn, gW, qd, qv, ev, pick, argE, zipE, ne_eq, eq_self, forall_const, implies_true, if_true, if_false, reduceIte, reduceCtorEq, Nat.reduceEqDiff, Nat.reduceAdd, Nat.reduceLT, ↓us_isearcher_examine, r_isearcher_examine]
    refine m_st hblk3 rfl (Nat.le_of_ble_eq_true rfl) (fCu_one c) ?_
    rintro w4 hb4 hu4
    have hb4 : Blk w4 b3 (fCu c) 108 := hb4
    have hl4 := hb4.cu
    have h4 := h2.go (hu4.below hx3 (Nat.le_of_eq hb3.symm))
    by_cases hcut : cutB st cs b s n p = true
    · have hN : srN (cutB st cs b s n) 0 p = 1 := by simp [srN, hcut]
      have hT : srT (cutB st cs b s n) 0 p = [] := by simp [srT, hcut]
      simp only [↓vsd, vsn, gW, qd, qv, ev, pick, argE, zipE, ne_eq, eq_self, forall_const, implies_true, if_true, if_false, reduceIte, reduceCtorEq, Nat.reduceEqDiff, Nat.reduceAdd, Nat.reduceLT, ↓us_isearcher_examine, r_isearcher_examine, hcut, hl4, h4.blk.facts, fSeg]
      refine m_bsl (one_el rfl) ?_
      rintro b5 w5 hb5 hblk5 hx5 hs5
      have hx5 : Ext w4 w5 := by first | exact hx5 | exact ud hx5 | exact ud (ud hx5)
      have h5 := h4.go hx5
      simp only [↓vsd, vsn, gW, qd, qv, ev, pick, argE, zipE, ne_eq, eq_self, forall_const, implies_true, if_true, if_false, reduceIte, reduceCtorEq, Nat.reduceEqDiff, Nat.reduceAdd, Nat.reduceLT, ↓us_isearcher_examine, r_isearcher_examine]
      refine m_app h5.cu (Sq.lit (f := fCu) [c] 1 fCu_len hblk5 rfl rfl) fCu_one (by decide) (by show _ + 1 ≤ _; omega) (by decide) h5.ext.size ?_
      rintro vc' w6 hoc hg6
      obtain ⟨hb6, hput⟩ := h5.appC hg6 hoc
      simp only [↓vsd, vsn, gW, qd, qv, ev, pick, argE, zipE, ne_eq, eq_self, forall_const, implies_true, if_true, if_false, reduceIte, reduceCtorEq, Nat.reduceEqDiff, Nat.reduceAdd, Nat.reduceLT, ↓us_isearcher_examine, r_isearcher_examine]
      have hcl := hoc.cells1
      refine m_st hb6 (by rw [hcl]; rfl) (Nat.le_of_ble_eq_true rfl) (one_cells hcl hoc.sq.one') ?_
      rintro w7 hb7 hu7
      rw [hcl] at hb7
      have h7 := hput w7 hu7 hb7
      simp only [↓vsd, vsn, gW, qd, qv, ev, pick, argE, zipE, ne_eq, eq_self, forall_const, implies_true, if_true, if_false, reduceIte, reduceCtorEq, Nat.reduceEqDiff, Nat.reduceAdd, Nat.reduceLT, ↓us_isearcher_examine, r_isearcher_examine]
      exact ⟨vt, vc', _, by rw [hN, hT, List.append_nil]; exact h7, by rw [hN, List.length_append]; exact Nat.le_refl _⟩
    · rw [Bool.not_eq_true] at hcut
      have hpn : ((p.length : Nat) : Int) = n := by omega
      have hN : srN (cutB st cs b s n) 0 p = 1 := rfl
      have hT : srT (cutB st cs b s n) 0 p = [p] := by simp [srT, hcut]
      simp only [↓vsd, vsn, gW, qd, qv, ev, pick, argE, zipE, ne_eq, eq_self, forall_const, implies_true, if_true, if_false, reduceIte, reduceCtorEq, Nat.reduceEqDiff, Nat.reduceAdd, Nat.reduceLT, ↓us_isearcher_examine, r_isearcher_examine, hcut, h4.blk.facts, fSeg, hpn]
      refine m_bsl (one_el rfl) ?_
      rintro b5 w5 hb5 hblk5 hx5 hs5
      have h5 := h4.go hx5
      simp only [↓vsd, vsn, gW, qd, qv, ev, pick, argE, zipE, ne_eq, eq_self, forall_const, implies_true, if_true, if_false, reduceIte, reduceCtorEq, Nat.reduceEqDiff, Nat.reduceAdd, Nat.reduceLT, ↓us_isearcher_examine, r_isearcher_examine]
      refine m_app h5.ts (Sq.one fS_len hblk5 rfl) fS_one (by decide) (by show _ + 1 ≤ _; omega) (by decide) h5.ext.size ?_
      rintro vt' w6 hot hg6
      obtain ⟨hb6, hput⟩ := h5.appT hg6 hot
      simp only [↓vsd, vsn, gW, qd, qv, ev, pick, argE, zipE, ne_eq, eq_self, forall_const, implies_true, if_true, if_false, reduceIte, reduceCtorEq, Nat.reduceEqDiff, Nat.reduceAdd, Nat.reduceLT, ↓us_isearcher_examine, r_isearcher_examine]
      have hcl := hot.cells1
      refine m_st hb6 (by rw [hcl]; rfl) (Nat.le_of_ble_eq_true rfl) (one_cells hcl hot.sq.one') ?_
      rintro w7 hb7 hu7
      rw [hcl] at hb7
      have h7 := hput w7 hu7 hb7
      simp only [↓vsd, vsn, gW, qd, qv, ev, pick, argE, zipE, ne_eq, eq_self, forall_const, implies_true, if_true, if_false, reduceIte, reduceCtorEq, Nat.reduceEqDiff, Nat.reduceAdd, Nat.reduceLT, ↓us_isearcher_examine, r_isearcher_examine]
      exact ⟨vt', vc, _, by rw [hN, hT]; exact h7, by rw [hN]; exact Nat.le_succ _⟩
  | succ f ih =>
    intro p hp hpc left vt vc T C w hlf hTl hCl h
    have hpos := Nat.le_trans (srN_pos (cutB st cs b s n) _ p) hlf
    have hl0 : ¬ (left : Int) = 0 := by omega
    have hn6 := h.mc.2
    (refine callsV_of mix Try.func73 c_isearcher_examine ?_; simp only [↓vsd, vsn, gW, qd, qv, ev, pick, argE, zipE, ne_eq, eq_self, forall_const, implies_true, if_true, if_false, reduceIte, reduceCtorEq, Nat.reduceEqDiff, Nat.reduceAdd, Nat.reduceLT, ↓us_isearcher_examine, r_isearcher_examine])
    simp only [↓vsd, vsn, gW, qd, qv, ev, pick, argE, zipE, ne_eq, eq_self, forall_const, implies_true, if_true, if_false, reduceIte, reduceCtorEq, Nat.reduceEqDiff, Nat.reduceAdd, Nat.reduceLT, ↓us_isearcher_examine, r_isearcher_examine, h.blk.facts, fSeg, hl0]
    refine ⟨inR_i64 (by omega), ?_⟩
    refine m_st h.blk rfl (Nat.le_of_ble_eq_true rfl) (fI_one _) ?_
    rintro w1 hb1 hu1
    have el : (left : Int) - 1 = ((left - 1 : Nat) : Int) := by omega
    have h1 : SrAt W nm st v cs b s n b0 m0 ((left - 1 : Nat) : Int) vt vc T C w1 := h.sto hu1 (by rw [← el]; exact hb1)
    simp only [↓vsd, vsn, gW, qd, qv, ev, pick, argE, zipE, ne_eq, eq_self, forall_const, implies_true, if_true, if_false, reduceIte, reduceCtorEq, Nat.reduceEqDiff, Nat.reduceAdd, Nat.reduceLT, ↓us_isearcher_examine, r_isearcher_examine]
    refine m_call (isearcher_cutOf_ok W nm st v cs b s n b0 m0 _ vt vc T C p (by omega) hpc _ h1) ?_
    rintro _ w2 hx2 ⟨c, rfl⟩
    have h2 := h1.go hx2
    simp only [↓vsd, vsn, gW, qd, qv, ev, pick, argE, zipE, ne_eq, eq_self, forall_const, implies_true, if_true, if_false, reduceIte, reduceCtorEq, Nat.reduceEqDiff, Nat.reduceAdd, Nat.reduceLT, ↓us_isearcher_examine, r_isearcher_examine]
    refine m_al ?_
    rintro b3 w3 hb3 hblk3 hx3 hs3
    simp only [↓vsd, vsn, gW, qd, qv, ev, pick, argE, zipE, ne_eq, eq_self, forall_const, implies_true, if_true, if_false, reduceIte, reduceCtorEq, Nat.reduceEqDiff, Nat.reduceAdd, Nat.reduceLT, ↓us_isearcher_examine, r_isearcher_examine]
    refine m_st hblk3 rfl (Nat.le_of_ble_eq_true rfl) (fCu_one c) ?_
    rintro w4 hb4 hu4
    have hb4 : Blk w4 b3 (fCu c) 108 := hb4
    have hl4 := hb4.cu
    have h4 := h2.go (hu4.below hx3 (Nat.le_of_eq hb3.symm))
    by_cases hcut : cutB st cs b s n p = true
    · have hN : srN (cutB st cs b s n) (f + 1) p = 1 := by simp [srN, hcut]
      have hT : srT (cutB st cs b s n) (f + 1) p = [] := by simp [srT, hcut]
      simp only [↓vsd, vsn, gW, qd, qv, ev, pick, argE, zipE, ne_eq, eq_self, forall_const, implies_true, if_true, if_false, reduceIte, reduceCtorEq, Nat.reduceEqDiff, Nat.reduceAdd, Nat.reduceLT, ↓us_isearcher_examine, r_isearcher_examine, hcut, hl4, h4.blk.facts, fSeg]
      refine m_bsl (one_el rfl) ?_
      rintro b5 w5 hb5 hblk5 hx5 hs5
      have hx5 : Ext w4 w5 := by first | exact hx5 | exact ud hx5 | exact ud (ud hx5)
      have h5 := h4.go hx5
      simp only [↓vsd, vsn, gW, qd, qv, ev, pick, argE, zipE, ne_eq, eq_self, forall_const, implies_true, if_true, if_false, reduceIte, reduceCtorEq, Nat.reduceEqDiff, Nat.reduceAdd, Nat.reduceLT, ↓us_isearcher_examine, r_isearcher_examine]
      refine m_app h5.cu (Sq.lit (f := fCu) [c] 1 fCu_len hblk5 rfl rfl) fCu_one (by decide) (by show _ + 1 ≤ _; omega) (by decide) h5.ext.size ?_
      rintro vc' w6 hoc hg6
      obtain ⟨hb6, hput⟩ := h5.appC hg6 hoc
      simp only [↓vsd, vsn, gW, qd, qv, ev, pick, argE, zipE, ne_eq, eq_self, forall_const, implies_true, if_true, if_false, reduceIte, reduceCtorEq, Nat.reduceEqDiff, Nat.reduceAdd, Nat.reduceLT, ↓us_isearcher_examine, r_isearcher_examine]
      have hcl := hoc.cells1
      refine m_st hb6 (by rw [hcl]; rfl) (Nat.le_of_ble_eq_true rfl) (one_cells hcl hoc.sq.one') ?_
      rintro w7 hb7 hu7
      rw [hcl] at hb7
      have h7 := hput w7 hu7 hb7
      simp only [↓vsd, vsn, gW, qd, qv, ev, pick, argE, zipE, ne_eq, eq_self, forall_const, implies_true, if_true, if_false, reduceIte, reduceCtorEq, Nat.reduceEqDiff, Nat.reduceAdd, Nat.reduceLT, ↓us_isearcher_examine, r_isearcher_examine]
      exact ⟨vt, vc', _, by rw [hN, hT, List.append_nil]; exact h7, by rw [hN, List.length_append]; exact Nat.le_refl _⟩
    · rw [Bool.not_eq_true] at hcut
      have hpn : ¬ ((p.length : Nat) : Int) = n := by omega
      have hN : srN (cutB st cs b s n) (f + 1) p = 1 + ((extL p).map (srN (cutB st cs b s n) f)).sum := by
        simp only [srN, hcut, extL, List.map_cons, List.map_nil, List.sum_cons, List.sum_nil]; simp; omega
      have hT : srT (cutB st cs b s n) (f + 1) p = (extL p).flatMap (srT (cutB st cs b s n) f) := by simp [srT, hcut, extL]
      rw [hN] at hlf ⊢
      rw [hT]
      simp only [↓vsd, vsn, gW, qd, qv, ev, pick, argE, zipE, ne_eq, eq_self, forall_const, implies_true, if_true, if_false, reduceIte, reduceCtorEq, Nat.reduceEqDiff, Nat.reduceAdd, Nat.reduceLT, ↓us_isearcher_examine, r_isearcher_examine, hcut, h4.blk.facts, fSeg, hpn]
      refine m_upto 3 (fun j vs w' => vs = [.int .i64 j] ∧ ∃ vt vc C', SrAt W nm st v cs b s n b0 m0 ((left - 1 - (((extL p).take j).map (srN (cutB st cs b s n) f)).sum : Nat) : Int) vt vc (T ++ ((extL p).take j).flatMap (srT (cutB st cs b s n) f)) C' w' ∧ C'.length ≤ C.length + (((extL p).take j).map (srN (cutB st cs b s n) f)).sum) ⟨rfl, vt, vc, C, by simpa using h4, by simp⟩ ?_
      rintro j vs w5 hj ⟨rfl, vt5, vc5, C5, h5, hC5⟩
      have hfl := flat_srT (cutB st cs b s n) f ((extL p).take j)
      by_cases hlj : j < 3
      · have hljI : (j : Int) < 3 := by omega
        have hljJ : ¬ (3 : Int) ≤ j := by omega
        have ej : (j : Int) + 1 = ((j + 1 : Nat) : Int) := by omega
        have hsub := let_sub j hlj
        have het := ext_take p j hlj
        have hsum := sum_take (srN (cutB st cs b s n) f) (extL p) (j + 1)
        have hcj : IsCall [([98, 112, 115] : Bs).getD j 0] := by
          rcases j with _ | _ | _ | j
          · decide
          · decide
          · decide
          · omega
        rw [het] at hsum
        rw [List.map_append, List.sum_append, List.map_singleton, List.sum_singleton] at hsum
        generalize ([98, 112, 115] : Bs).getD j 0 = x at *
        simp only [↓vsd, vsn, gW, qd, qv, ev, pick, argE, zipE, ne_eq, eq_self, forall_const, implies_true, if_true, if_false, reduceIte, reduceCtorEq, Nat.reduceEqDiff, Nat.reduceAdd, Nat.reduceLT, ↓us_isearcher_examine, r_isearcher_examine, hljI, hljJ, ej, hsub]
        refine ⟨inR_i64 (by omega), ⟨by omega, by omega, by omega⟩, by omega, ?_⟩
        refine m_callw (.inl rfl) (ih (p ++ [x]) (by rw [List.length_append, List.length_singleton]; omega) (fun c hc => by rcases List.mem_append.1 hc with hc | hc; exact hpc c hc; rw [List.mem_singleton.1 hc]; exact hcj) _ vt5 vc5 _ C5 w5 (by omega) (by rw [List.length_append]; omega) (by omega) h5) ?_
        rintro _ w6 ⟨vt6, vc6, C6, h6, hC6⟩
        have hN6 : (((extL p).take (j + 1)).map (srN (cutB st cs b s n) f)).sum = (((extL p).take j).map (srN (cutB st cs b s n) f)).sum + srN (cutB st cs b s n) f (p ++ [x]) := by rw [het, List.map_append, List.sum_append, List.map_singleton, List.sum_singleton]
        have hT6 : ((extL p).take (j + 1)).flatMap (srT (cutB st cs b s n) f) = ((extL p).take j).flatMap (srT (cutB st cs b s n) f) ++ srT (cutB st cs b s n) f (p ++ [x]) := by rw [het, List.flatMap_append]; simp
        simp only [↓vsd, vsn, gW, qd, qv, ev, pick, argE, zipE, ne_eq, eq_self, forall_const, implies_true, if_true, if_false, reduceIte, reduceCtorEq, Nat.reduceEqDiff, Nat.reduceAdd, Nat.reduceLT, ↓us_isearcher_examine, r_isearcher_examine]
        refine ⟨inR_i64 (by omega), UpTo.next hlj ⟨rfl, vt6, vc6, C6, ?_, by omega⟩⟩
        rw [hN6, hT6, ← List.append_assoc, Nat.sub_add_eq]
        exact h6
      · obtain rfl : j = 3 := by omega
        have hljI : ¬ ((3 : Nat) : Int) < 3 := by omega
        have e3 : (extL p).take 3 = extL p := rfl
        rw [e3] at h5 hC5
        simp only [↓vsd, vsn, gW, qd, qv, ev, pick, argE, zipE, ne_eq, eq_self, forall_const, implies_true, if_true, if_false, reduceIte, reduceCtorEq, Nat.reduceEqDiff, Nat.reduceAdd, Nat.reduceLT, ↓us_isearcher_examine, r_isearcher_examine, hljI]
        exact ⟨vt5, vc5, C5, by rw [Nat.sub_add_eq]; exact h5, by omega⟩
theorem iSearchTouches_ok (nm : Bs) (st : Nat) (v : Value) (cs : List Bs) (b s : Bs) (n : Nat) (hS : SeOk nm st cs b s n) (hnm : nm.length ≤ 1048576) (hs : ∀ c ∈ cs, c.length ≤ 1048576) (hl : cs.length ≤ 1000000000) (hb : b.length ≤ 1048576 ∧ s.length ≤ 1048576) (w : World) (h : Sq fS 1 w v cs) : Fn 32 [mV nm st v, kV b s, .int .i64 n, .int .i64 5000] w (fun r w' => ∃ vt vc T, r = .tuple ⟨[.agg ⟨[vt, vc, .bool true]⟩, .bool true]⟩ ∧ Sq fS 1 w' vt T ∧ vc.oneCell' = true ∧ T.length = ctN st cs b s n ∧ T.length ≤ 5000) := by
  have hn6 := hS.2
  (refine callsV_of mix Try.func32 c_iSearchTouches ?_; simp only [↓vsd, vsn, gW, qd, qv, ev, pick, argE, zipE, ne_eq, eq_self, forall_const, implies_true, if_true, if_false, reduceIte, reduceCtorEq, Nat.reduceEqDiff, Nat.reduceAdd, Nat.reduceLT, ↓us_iSearchTouches, r_iSearchTouches])
  refine m_al ?_
  rintro b1 w1 hb1 hblk1 hx1 hs1
  have h1 : Blk w1 b1 (fM nm st v) 44 := hblk1
  simp only [↓vsd, vsn, gW, qd, qv, ev, pick, argE, zipE, ne_eq, eq_self, forall_const, implies_true, if_true, if_false, reduceIte, reduceCtorEq, Nat.reduceEqDiff, Nat.reduceAdd, Nat.reduceLT, ↓us_iSearchTouches, r_iSearchTouches, h1.facts, fMg]
  refine m_al ?_
  rintro b2 w2 hb2 hblk2 hx2 hs2
  have h2 : Blk w2 b2 (fQ b s) 46 := hblk2
  have h12 := h1.ext hx2
  have hx12 := hx1.trans hx2
  simp only [↓vsd, vsn, gW, qd, qv, ev, pick, argE, zipE, ne_eq, eq_self, forall_const, implies_true, if_true, if_false, reduceIte, reduceCtorEq, Nat.reduceEqDiff, Nat.reduceAdd, Nat.reduceLT, ↓us_iSearchTouches, r_iSearchTouches, h12.facts, h2.facts, fMg, fQg]
  refine m_al ?_
  rintro b3 w3 hb3 hblk3 hx3 hs3
  have hx13 := hx12.trans hx3
  have h13 := h12.ext hx3
  have h23 := h2.ext hx3
  simp only [↓vsd, vsn, gW, qd, qv, ev, pick, argE, zipE, ne_eq, eq_self, forall_const, implies_true, if_true, if_false, reduceIte, reduceCtorEq, Nat.reduceEqDiff, Nat.reduceAdd, Nat.reduceLT, ↓us_iSearchTouches, r_iSearchTouches, h13.facts, h23.facts, fMg, fQg]
  refine m_call (igoodSearch_ok nm st v cs b s n hnm hs hl hb _ (h.ext hx13)) ?_
  rintro _ w4 hx4 rfl
  have hSd := decide_eq_true hS
  simp only [↓vsd, vsn, gW, qd, qv, ev, pick, argE, zipE, ne_eq, eq_self, forall_const, implies_true, if_true, if_false, reduceIte, reduceCtorEq, Nat.reduceEqDiff, Nat.reduceAdd, Nat.reduceLT, ↓us_iSearchTouches, r_iSearchTouches, hSd]
  refine m_call (iwithin_ok 5000 1 5000 _) ?_
  rintro _ w5 hx5 rfl
  have hx35 := hx4.trans hx5
  have hx15 := hx13.trans hx35
  have h15 := h13.ext hx35
  have h25 := h23.ext hx35
  have hb35 := Blk.ext hblk3 hx35
  have hwi : (decide ((1 : Int) ≤ 5000) && decide ((5000 : Int) ≤ 5000)) = true := by decide
  simp only [↓vsd, vsn, gW, qd, qv, ev, pick, argE, zipE, ne_eq, eq_self, forall_const, implies_true, if_true, if_false, reduceIte, reduceCtorEq, Nat.reduceEqDiff, Nat.reduceAdd, Nat.reduceLT, ↓us_iSearchTouches, r_iSearchTouches, hwi, h15.facts, h25.facts, fMg, fQg]
  refine m_call (inewSearcher_ok nm st v cs b s n hS.1.1 _ (h.ext hx15)) ?_
  rintro _ w6 hx6 ⟨b0, m0, L, rfl, hb6, hset6, hlo6, hL⟩
  simp only [↓vsd, vsn, gW, qd, qv, ev, pick, argE, zipE, ne_eq, eq_self, forall_const, implies_true, if_true, if_false, reduceIte, reduceCtorEq, Nat.reduceEqDiff, Nat.reduceAdd, Nat.reduceLT, ↓us_iSearchTouches, r_iSearchTouches]
  refine m_st hb6 rfl (Nat.le_of_ble_eq_true rfl) (fI_one _) ?_
  rintro w7 hb7 hu7
  simp only [↓vsd, vsn, gW, qd, qv, ev, pick, argE, zipE, ne_eq, eq_self, forall_const, implies_true, if_true, if_false, reduceIte, reduceCtorEq, Nat.reduceEqDiff, Nat.reduceAdd, Nat.reduceLT, ↓us_iSearchTouches, r_iSearchTouches]
  refine m_st hb7 rfl (Nat.le_of_ble_eq_true rfl) (fB_one _) ?_
  rintro w8 hb8 hu8
  have hs7 := hset6.grown hu7.grown (fun e => hset6.apartB hb6 (Option.some.inj e))
  have hs8 := hs7.grown hu8.grown (fun e => hs7.apartB hb7 (Option.some.inj e))
  have hx8 : Ext w5 w8 := hu8.below (hu7.below hx6 hlo6.1) hlo6.1
  have h8 : SrAt w5 nm st v cs b s n b0 m0 (5000 : Nat) (.slice none 0 0) (.slice none 0 0) [] [] w8 := ⟨hb8, ⟨L, hs8, hL⟩, hx8, hlo6, h.ext hx15, ⟨hS.1, by omega⟩, Own.nil fS_len, Own.nil fCu_len⟩
  have hN := srN_le (cutB st cs b s n) n []
  have hp3 : 3 ^ (n + 1) ≤ 2187 := Nat.le_trans (Nat.pow_le_pow_right (by decide) (show n + 1 ≤ 7 by omega)) (by decide)
  have hTl := srT_len (cutB st cs b s n) n []
  have hcnt : (srT (cutB st cs b s n) n []).length = ctN st cs b s n := by rw [search_count hS.1 (by omega), ctN]
  simp only [↓vsd, vsn, gW, qd, qv, ev, pick, argE, zipE, ne_eq, eq_self, forall_const, implies_true, if_true, if_false, reduceIte, reduceCtorEq, Nat.reduceEqDiff, Nat.reduceAdd, Nat.reduceLT, ↓us_iSearchTouches, r_iSearchTouches]
  refine m_callw (.inl rfl) (isearcher_examine_ok w5 nm st v cs b s n b0 m0 n [] (by simp) (by simp) 5000 _ _ [] [] w8 (by omega) (by simp) (by simp) h8) ?_
  rintro _ w9 ⟨vt, vc, C, h9, hC⟩
  rw [List.nil_append] at h9
  have hse := h9.blk.se
  have hbl3 := (Blk.ext hb35 h9.ext)
  have hb3lt := hb35.lt
  simp only [↓vsd, vsn, gW, qd, qv, ev, pick, argE, zipE, ne_eq, eq_self, forall_const, implies_true, if_true, if_false, reduceIte, reduceCtorEq, Nat.reduceEqDiff, Nat.reduceAdd, Nat.reduceLT, ↓us_iSearchTouches, r_iSearchTouches, hse, h9.blk.facts, fSeg]
  have hone : ∀ u ∈ [vt, vc, .bool true], u.oneCell' = true := fun u hu => by
    simp only [List.mem_cons, List.not_mem_nil, or_false] at hu
    rcases hu with rfl | rfl | rfl
    · exact h9.ts.sq.one'
    · exact h9.cu.sq.one'
    · rfl
  refine m_st hbl3 rfl (Nat.le_of_ble_eq_true rfl) hone ?_
  rintro w10 hb10 hu10
  have hb10 : Blk w10 b3 [vt, vc, .bool true] 52 := hb10
  have hl10 : ldaV w10 3 (.pointer (some ⟨b3, 0, none⟩)) = .agg ⟨[vt, vc, .bool true]⟩ ∧ ldaD w10 3 (.pointer (some ⟨b3, 0, none⟩)) = True := hb10.part 0 3 (Nat.le_refl 3)
  have hz2 := hx12.size
  simp only [↓vsd, vsn, gW, qd, qv, ev, pick, argE, zipE, ne_eq, eq_self, forall_const, implies_true, if_true, if_false, reduceIte, reduceCtorEq, Nat.reduceEqDiff, Nat.reduceAdd, Nat.reduceLT, ↓us_iSearchTouches, r_iSearchTouches, hl10]
  exact ⟨hu10.below (hx15.trans h9.ext) (by omega), vt, vc, _, rfl, (h9.ts.upd hu10 (h9.ts.apartB hbl3 (by decide))).sq, h9.cu.sq.one', hcnt, by omega⟩
end Go.Proofs.Ytfklonhjgkahdaa
