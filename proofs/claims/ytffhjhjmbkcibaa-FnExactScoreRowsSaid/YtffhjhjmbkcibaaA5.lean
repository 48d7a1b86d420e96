/-
  Liked lists: GoodLiked, and the law's helpers for them.
  Conditions: none.
-/
import Derived.Test.YtffhjhjmbkcibaaA2
set_option linter.unusedSimpArgs false
set_option linter.unusedVariables false
set_option linter.defProp false
namespace Go.Proofs.Ytffhjhjmbkcibaa
open Go Go.RowKit
def t_lszLiked_1 : X := (.cond (.t 11) (.seq (.reg [4] [.q 4 [] (.mv (.c (.int .i64 (-1))))]) .ret) .skip)
theorem u_lszLiked_1 (P : Program) (k : KT) (e : Env) (w : World) : vcK P t_lszLiked_1 k e w = vcK P (.cond (.t 11) (.seq (.reg [4] [.q 4 [] (.mv (.c (.int .i64 (-1))))]) .ret) .skip) k e w := rfl
def t_lszLiked_2 : X := (.seq (.reg [4] [.q 12 [] (.mv (.t 1)), .q 4 [] (.mv (.t 12))]) .ret)
theorem u_lszLiked_2 (P : Program) (k : KT) (e : Env) (w : World) : vcK P t_lszLiked_2 k e w = vcK P (.seq (.reg [4] [.q 12 [] (.mv (.t 1)), .q 4 [] (.mv (.t 12))]) .ret) k e w := rfl
def t_lszLiked_3 : X := (.seq (.seq (.reg [1, 11] [.q 10 [] (.mv (.t 1)), .q 11 [] (.bin .lss (.t 10) (.c (.int .i64 0)))]) t_lszLiked_1) t_lszLiked_2)
theorem u_lszLiked_3 (P : Program) (k : KT) (e : Env) (w : World) : vcK P t_lszLiked_3 k e w = vcK P (.seq (.seq (.reg [1, 11] [.q 10 [] (.mv (.t 1)), .q 11 [] (.bin .lss (.t 10) (.c (.int .i64 0)))]) t_lszLiked_1) t_lszLiked_2) k e w := rfl
def t_lszLiked_4 : X := (.seq (.reg [1] [.q 5 [] (.mv (.t 1)), .q 6 [] (.fa 0 (.t 2)), .q 7 [] (.ld (.t 6)), .q 8 [] (.len (.t 7)), .q 9 [] (.bin .sub (.t 5) (.t 8)), .q 1 [] (.mv (.t 9))]) t_lszLiked_3)
theorem u_lszLiked_4 (P : Program) (k : KT) (e : Env) (w : World) : vcK P t_lszLiked_4 k e w = vcK P (.seq (.reg [1] [.q 5 [] (.mv (.t 1)), .q 6 [] (.fa 0 (.t 2)), .q 7 [] (.ld (.t 6)), .q 8 [] (.len (.t 7)), .q 9 [] (.bin .sub (.t 5) (.t 8)), .q 1 [] (.mv (.t 9))]) t_lszLiked_3) k e w := rfl
def x_lszLiked : X := (.seq (.reg [1, 2] [.e (some 2) [] (.box 96 (.t 0)), .q 4 [] (.mv (.c (.int .i64 0)))]) t_lszLiked_4)
theorem u_lszLiked (P : Program) (k : KT) (e : Env) (w : World) : vcK P x_lszLiked k e w = vcK P (.seq (.reg [1, 2] [.e (some 2) [] (.box 96 (.t 0)), .q 4 [] (.mv (.c (.int .i64 0)))]) t_lszLiked_4) k e w := rfl
def r_lszLiked : List XO := [(.mv (.t 4))]
theorem c_lszLiked : convF Try.prog [] Try.f110 [([1, 2], []), ([1], []), ([1, 11], []), ([4], []), ([4], [])] = some (x_lszLiked, r_lszLiked) := by kernel_rfl
def us_lszLiked := And.intro @u_lszLiked (And.intro @u_lszLiked_1 (And.intro @u_lszLiked_2 (And.intro @u_lszLiked_3 @u_lszLiked_4)))
def t_lszLikedS_1 : X := (.cond (.t 11) (.seq (.reg [4] [.q 4 [] (.mv (.c (.int .i64 (-1))))]) .ret) .skip)
theorem u_lszLikedS_1 (P : Program) (k : KT) (e : Env) (w : World) : vcK P t_lszLikedS_1 k e w = vcK P (.cond (.t 11) (.seq (.reg [4] [.q 4 [] (.mv (.c (.int .i64 (-1))))]) .ret) .skip) k e w := rfl
def t_lszLikedS_2 : X := (.cond (.t 15) .skip (.exit 0))
theorem u_lszLikedS_2 (P : Program) (k : KT) (e : Env) (w : World) : vcK P t_lszLikedS_2 k e w = vcK P (.cond (.t 15) .skip (.exit 0)) k e w := rfl
def t_lszLikedS_3 : X := (.cond (.t 25) (.seq (.reg [4] [.q 4 [] (.mv (.c (.int .i64 (-1))))]) .ret) .skip)
theorem u_lszLikedS_3 (P : Program) (k : KT) (e : Env) (w : World) : vcK P t_lszLikedS_3 k e w = vcK P (.cond (.t 25) (.seq (.reg [4] [.q 4 [] (.mv (.c (.int .i64 (-1))))]) .ret) .skip) k e w := rfl
def t_lszLikedS_4 : X := (.seq (.reg [0, 1, 5, 25] [.q 24 [] (.mv (.t 1)), .q 25 [] (.bin .lss (.t 24) (.c (.int .i64 0)))]) t_lszLikedS_3)
theorem u_lszLikedS_4 (P : Program) (k : KT) (e : Env) (w : World) : vcK P t_lszLikedS_4 k e w = vcK P (.seq (.reg [0, 1, 5, 25] [.q 24 [] (.mv (.t 1)), .q 25 [] (.bin .lss (.t 24) (.c (.int .i64 0)))]) t_lszLikedS_3) k e w := rfl
def t_lszLikedS_5 : X := (.reg [0, 1, 5] [.q 16 [] (.mv (.t 5)), .q 17 [] (.bin .add (.t 16) (.c (.int .i64 1))), .q 5 [] (.mv (.t 17))])
theorem u_lszLikedS_5 (P : Program) (k : KT) (e : Env) (w : World) : vcK P t_lszLikedS_5 k e w = vcK P (.reg [0, 1, 5] [.q 16 [] (.mv (.t 5)), .q 17 [] (.bin .add (.t 16) (.c (.int .i64 1))), .q 5 [] (.mv (.t 17))]) k e w := rfl
def t_lszLikedS_6 : X := (.seq (.blk 1 (.seq (.reg [0, 1, 5] [.q 18 [] (.mv (.t 0)), .q 19 [] (.mv (.t 5)), .q 20 [] (.ia 2 (.t 18) (.t 19)), .q 21 [] (.lda 2 (.t 20)), .q 22 [] (.mv (.t 1)), .e (some 23) [] (.call false 110 [(.t 21), (.t 22)]), .q 1 [] (.mv (.t 23))]) t_lszLikedS_4)) t_lszLikedS_5)
theorem u_lszLikedS_6 (P : Program) (k : KT) (e : Env) (w : World) : vcK P t_lszLikedS_6 k e w = vcK P (.seq (.blk 1 (.seq (.reg [0, 1, 5] [.q 18 [] (.mv (.t 0)), .q 19 [] (.mv (.t 5)), .q 20 [] (.ia 2 (.t 18) (.t 19)), .q 21 [] (.lda 2 (.t 20)), .q 22 [] (.mv (.t 1)), .e (some 23) [] (.call false 110 [(.t 21), (.t 22)]), .q 1 [] (.mv (.t 23))]) t_lszLikedS_4)) t_lszLikedS_5) k e w := rfl
def t_lszLikedS_7 : X := (.seq (.seq (.reg [0, 1, 5, 15] [.q 12 [] (.mv (.t 5)), .q 13 [] (.mv (.t 0)), .q 14 [] (.lens (.t 13)), .q 15 [] (.bin .lss (.t 12) (.t 14))]) t_lszLikedS_2) t_lszLikedS_6)
theorem u_lszLikedS_7 (P : Program) (k : KT) (e : Env) (w : World) : vcK P t_lszLikedS_7 k e w = vcK P (.seq (.seq (.reg [0, 1, 5, 15] [.q 12 [] (.mv (.t 5)), .q 13 [] (.mv (.t 0)), .q 14 [] (.lens (.t 13)), .q 15 [] (.bin .lss (.t 12) (.t 14))]) t_lszLikedS_2) t_lszLikedS_6) k e w := rfl
def t_lszLikedS_8 : X := (.blk 0 (.loop [1, 5] [0] t_lszLikedS_7))
theorem u_lszLikedS_8 (P : Program) (k : KT) (e : Env) (w : World) : vcK P t_lszLikedS_8 k e w = vcK P (.blk 0 (.loop [1, 5] [0] t_lszLikedS_7)) k e w := rfl
def t_lszLikedS_9 : X := (.seq (.reg [4] [.q 26 [] (.mv (.t 1)), .q 4 [] (.mv (.t 26))]) .ret)
theorem u_lszLikedS_9 (P : Program) (k : KT) (e : Env) (w : World) : vcK P t_lszLikedS_9 k e w = vcK P (.seq (.reg [4] [.q 26 [] (.mv (.t 1)), .q 4 [] (.mv (.t 26))]) .ret) k e w := rfl
def t_lszLikedS_10 : X := (.seq (.seq (.reg [0, 1, 5] [.q 5 [] (.mv (.c (.int .i64 0)))]) t_lszLikedS_8) t_lszLikedS_9)
theorem u_lszLikedS_10 (P : Program) (k : KT) (e : Env) (w : World) : vcK P t_lszLikedS_10 k e w = vcK P (.seq (.seq (.reg [0, 1, 5] [.q 5 [] (.mv (.c (.int .i64 0)))]) t_lszLikedS_8) t_lszLikedS_9) k e w := rfl
def t_lszLikedS_11 : X := (.seq (.seq (.reg [0, 1, 11] [.q 10 [] (.mv (.t 1)), .q 11 [] (.bin .lss (.t 10) (.c (.int .i64 0)))]) t_lszLikedS_1) t_lszLikedS_10)
theorem u_lszLikedS_11 (P : Program) (k : KT) (e : Env) (w : World) : vcK P t_lszLikedS_11 k e w = vcK P (.seq (.seq (.reg [0, 1, 11] [.q 10 [] (.mv (.t 1)), .q 11 [] (.bin .lss (.t 10) (.c (.int .i64 0)))]) t_lszLikedS_1) t_lszLikedS_10) k e w := rfl
def t_lszLikedS_12 : X := (.seq (.reg [0, 1] [.q 6 [] (.mv (.t 1)), .q 7 [] (.mv (.t 0)), .q 8 [] (.lens (.t 7)), .q 9 [] (.bin .sub (.t 6) (.t 8)), .q 1 [] (.mv (.t 9))]) t_lszLikedS_11)
theorem u_lszLikedS_12 (P : Program) (k : KT) (e : Env) (w : World) : vcK P t_lszLikedS_12 k e w = vcK P (.seq (.reg [0, 1] [.q 6 [] (.mv (.t 1)), .q 7 [] (.mv (.t 0)), .q 8 [] (.lens (.t 7)), .q 9 [] (.bin .sub (.t 6) (.t 8)), .q 1 [] (.mv (.t 9))]) t_lszLikedS_11) k e w := rfl
def x_lszLikedS : X := (.seq (.reg [0, 1] [.q 4 [] (.mv (.c (.int .i64 0)))]) t_lszLikedS_12)
theorem u_lszLikedS (P : Program) (k : KT) (e : Env) (w : World) : vcK P x_lszLikedS k e w = vcK P (.seq (.reg [0, 1] [.q 4 [] (.mv (.c (.int .i64 0)))]) t_lszLikedS_12) k e w := rfl
def r_lszLikedS : List XO := [(.mv (.t 4))]
theorem c_lszLikedS : convF Try.prog [] Try.f38 [([0, 1], []), ([0, 1], []), ([0, 1, 11], []), ([4], []), ([0, 1, 5], []), ([1, 5], [0]), ([0, 1, 5, 15], []), ([0, 1, 5], []), ([0, 1, 5, 25], []), ([4], []), ([0, 1, 5], []), ([4], [])] = some (x_lszLikedS, r_lszLikedS) := by kernel_rfl
def us_lszLikedS := And.intro @u_lszLikedS (And.intro @u_lszLikedS_1 (And.intro @u_lszLikedS_2 (And.intro @u_lszLikedS_3 (And.intro @u_lszLikedS_4 (And.intro @u_lszLikedS_5 (And.intro @u_lszLikedS_6 (And.intro @u_lszLikedS_7 (And.intro @u_lszLikedS_8 (And.intro @u_lszLikedS_9 (And.intro @u_lszLikedS_10 (And.intro @u_lszLikedS_11 @u_lszLikedS_12)))))))))))
def t_ltoLiked_1 : X := (.seq (.reg [2] [.q 10 [] (.lda 2 (.t 3)), .e none [] (.st 2 (.t 2) (.t 10))]) .ret)
theorem u_ltoLiked_1 (P : Program) (k : KT) (e : Env) (w : World) : vcK P t_ltoLiked_1 k e w = vcK P (.seq (.reg [2] [.q 10 [] (.lda 2 (.t 3)), .e none [] (.st 2 (.t 2) (.t 10))]) .ret) k e w := rfl
def t_ltoLiked_2 : X := (.seq (.reg [2, 3] [.q 7 [] (.fa 1 (.t 1)), .q 8 [] (.ld (.t 7)), .q 9 [] (.fa 1 (.t 3)), .e none [] (.st 1 (.t 9) (.t 8))]) t_ltoLiked_1)
theorem u_ltoLiked_2 (P : Program) (k : KT) (e : Env) (w : World) : vcK P t_ltoLiked_2 k e w = vcK P (.seq (.reg [2, 3] [.q 7 [] (.fa 1 (.t 1)), .q 8 [] (.ld (.t 7)), .q 9 [] (.fa 1 (.t 3)), .e none [] (.st 1 (.t 9) (.t 8))]) t_ltoLiked_1) k e w := rfl
def t_ltoLiked_3 : X := (.seq (.reg [1, 2, 3] [.q 4 [] (.fa 0 (.t 1)), .q 5 [] (.ld (.t 4)), .q 6 [] (.fa 0 (.t 3)), .e none [] (.st 1 (.t 6) (.t 5))]) t_ltoLiked_2)
theorem u_ltoLiked_3 (P : Program) (k : KT) (e : Env) (w : World) : vcK P t_ltoLiked_3 k e w = vcK P (.seq (.reg [1, 2, 3] [.q 4 [] (.fa 0 (.t 1)), .q 5 [] (.ld (.t 4)), .q 6 [] (.fa 0 (.t 3)), .e none [] (.st 1 (.t 6) (.t 5))]) t_ltoLiked_2) k e w := rfl
def t_ltoLiked_4 : X := (.seq (.reg [1, 2, 3] [.e (some 3) [] (.al 99 [(S []), (.int .i64 0)])]) t_ltoLiked_3)
theorem u_ltoLiked_4 (P : Program) (k : KT) (e : Env) (w : World) : vcK P t_ltoLiked_4 k e w = vcK P (.seq (.reg [1, 2, 3] [.e (some 3) [] (.al 99 [(S []), (.int .i64 0)])]) t_ltoLiked_3) k e w := rfl
def x_ltoLiked : X := (.seq (.reg [1, 2] [.e (some 1) [] (.box 96 (.t 0)), .e (some 2) [] (.al 99 [(S []), (.int .i64 0)])]) t_ltoLiked_4)
theorem u_ltoLiked (P : Program) (k : KT) (e : Env) (w : World) : vcK P x_ltoLiked k e w = vcK P (.seq (.reg [1, 2] [.e (some 1) [] (.box 96 (.t 0)), .e (some 2) [] (.al 99 [(S []), (.int .i64 0)])]) t_ltoLiked_4) k e w := rfl
def r_ltoLiked : List XO := [(.lda 2 (.t 2))]
theorem c_ltoLiked : convF Try.prog [] Try.f113 [([1, 2], []), ([1, 2, 3], []), ([1, 2, 3], []), ([2, 3], []), ([2], [])] = some (x_ltoLiked, r_ltoLiked) := by kernel_rfl
def us_ltoLiked := And.intro @u_ltoLiked (And.intro @u_ltoLiked_1 (And.intro @u_ltoLiked_2 (And.intro @u_ltoLiked_3 @u_ltoLiked_4)))
def t_ltoLikedS_1 : X := (.cond (.t 11) .skip (.exit 0))
theorem u_ltoLikedS_1 (P : Program) (k : KT) (e : Env) (w : World) : vcK P t_ltoLikedS_1 k e w = vcK P (.cond (.t 11) .skip (.exit 0)) k e w := rfl
def t_ltoLikedS_2 : X := (.reg [0, 3, 4] [.q 12 [] (.mv (.t 4)), .q 13 [] (.bin .add (.t 12) (.c (.int .i64 1))), .q 4 [] (.mv (.t 13))])
theorem u_ltoLikedS_2 (P : Program) (k : KT) (e : Env) (w : World) : vcK P t_ltoLikedS_2 k e w = vcK P (.reg [0, 3, 4] [.q 12 [] (.mv (.t 4)), .q 13 [] (.bin .add (.t 12) (.c (.int .i64 1))), .q 4 [] (.mv (.t 13))]) k e w := rfl
def t_ltoLikedS_3 : X := (.seq (.blk 1 (.reg [0, 3, 4] [.q 14 [] (.mv (.t 3)), .q 15 [] (.mv (.t 4)), .q 16 [] (.mv (.t 0)), .q 17 [] (.mv (.t 4)), .q 18 [] (.ia 2 (.t 16) (.t 17)), .q 19 [] (.lda 2 (.t 18)), .e (some 20) [] (.call false 113 [(.t 19)]), .q 21 [] (.ia 2 (.t 14) (.t 15)), .e none [] (.st 2 (.t 21) (.t 20))])) t_ltoLikedS_2)
theorem u_ltoLikedS_3 (P : Program) (k : KT) (e : Env) (w : World) : vcK P t_ltoLikedS_3 k e w = vcK P (.seq (.blk 1 (.reg [0, 3, 4] [.q 14 [] (.mv (.t 3)), .q 15 [] (.mv (.t 4)), .q 16 [] (.mv (.t 0)), .q 17 [] (.mv (.t 4)), .q 18 [] (.ia 2 (.t 16) (.t 17)), .q 19 [] (.lda 2 (.t 18)), .e (some 20) [] (.call false 113 [(.t 19)]), .q 21 [] (.ia 2 (.t 14) (.t 15)), .e none [] (.st 2 (.t 21) (.t 20))])) t_ltoLikedS_2) k e w := rfl
def t_ltoLikedS_4 : X := (.seq (.seq (.reg [0, 3, 4, 11] [.q 8 [] (.mv (.t 4)), .q 9 [] (.mv (.t 0)), .q 10 [] (.lens (.t 9)), .q 11 [] (.bin .lss (.t 8) (.t 10))]) t_ltoLikedS_1) t_ltoLikedS_3)
theorem u_ltoLikedS_4 (P : Program) (k : KT) (e : Env) (w : World) : vcK P t_ltoLikedS_4 k e w = vcK P (.seq (.seq (.reg [0, 3, 4, 11] [.q 8 [] (.mv (.t 4)), .q 9 [] (.mv (.t 0)), .q 10 [] (.lens (.t 9)), .q 11 [] (.bin .lss (.t 8) (.t 10))]) t_ltoLikedS_1) t_ltoLikedS_3) k e w := rfl
def t_ltoLikedS_5 : X := (.blk 0 (.loop [4] [0, 3] t_ltoLikedS_4))
theorem u_ltoLikedS_5 (P : Program) (k : KT) (e : Env) (w : World) : vcK P t_ltoLikedS_5 k e w = vcK P (.blk 0 (.loop [4] [0, 3] t_ltoLikedS_4)) k e w := rfl
def t_ltoLikedS_6 : X := (.seq (.reg [2] [.q 22 [] (.mv (.t 3)), .q 2 [] (.mv (.t 22))]) .ret)
theorem u_ltoLikedS_6 (P : Program) (k : KT) (e : Env) (w : World) : vcK P t_ltoLikedS_6 k e w = vcK P (.seq (.reg [2] [.q 22 [] (.mv (.t 3)), .q 2 [] (.mv (.t 22))]) .ret) k e w := rfl
def t_ltoLikedS_7 : X := (.seq (.seq (.reg [0, 3, 4] [.q 4 [] (.mv (.c (.int .i64 0)))]) t_ltoLikedS_5) t_ltoLikedS_6)
theorem u_ltoLikedS_7 (P : Program) (k : KT) (e : Env) (w : World) : vcK P t_ltoLikedS_7 k e w = vcK P (.seq (.seq (.reg [0, 3, 4] [.q 4 [] (.mv (.c (.int .i64 0)))]) t_ltoLikedS_5) t_ltoLikedS_6) k e w := rfl
def t_ltoLikedS_8 : X := (.seq (.reg [0, 3] [.q 5 [] (.mv (.t 0)), .q 6 [] (.lens (.t 5)), .e (some 7) [] (.msl 47 99 2 24 [(S []), (.int .i64 0)] (.t 6) (.t 6)), .q 3 [] (.mv (.t 7))]) t_ltoLikedS_7)
theorem u_ltoLikedS_8 (P : Program) (k : KT) (e : Env) (w : World) : vcK P t_ltoLikedS_8 k e w = vcK P (.seq (.reg [0, 3] [.q 5 [] (.mv (.t 0)), .q 6 [] (.lens (.t 5)), .e (some 7) [] (.msl 47 99 2 24 [(S []), (.int .i64 0)] (.t 6) (.t 6)), .q 3 [] (.mv (.t 7))]) t_ltoLikedS_7) k e w := rfl
def x_ltoLikedS : X := (.seq (.reg [0] [.q 2 [] (.mv (.c (.slice none 0 0)))]) t_ltoLikedS_8)
theorem u_ltoLikedS (P : Program) (k : KT) (e : Env) (w : World) : vcK P x_ltoLikedS k e w = vcK P (.seq (.reg [0] [.q 2 [] (.mv (.c (.slice none 0 0)))]) t_ltoLikedS_8) k e w := rfl
def r_ltoLikedS : List XO := [(.mv (.t 2))]
theorem c_ltoLikedS : convF Try.prog [] Try.f40 [([0], []), ([0, 3], []), ([0, 3, 4], []), ([4], [0, 3]), ([0, 3, 4, 11], []), ([0, 3, 4], []), ([0, 3, 4], []), ([2], [])] = some (x_ltoLikedS, r_ltoLikedS) := by kernel_rfl
def us_ltoLikedS := And.intro @u_ltoLikedS (And.intro @u_ltoLikedS_1 (And.intro @u_ltoLikedS_2 (And.intro @u_ltoLikedS_3 (And.intro @u_ltoLikedS_4 (And.intro @u_ltoLikedS_5 (And.intro @u_ltoLikedS_6 (And.intro @u_ltoLikedS_7 @u_ltoLikedS_8)))))))
def t_sl16Liked_1 : X := (.cond (.t 20) (.seq (.reg [2] [.q 2 [] (.mv (.c (.bool false)))]) .ret) .skip)
theorem u_sl16Liked_1 (P : Program) (k : KT) (e : Env) (w : World) : vcK P t_sl16Liked_1 k e w = vcK P (.cond (.t 20) (.seq (.reg [2] [.q 2 [] (.mv (.c (.bool false)))]) .ret) .skip) k e w := rfl
def t_sl16Liked_2 : X := (.seq (.reg [0, 5, 6, 7, 20] [.q 11 [] (.fa 0 (.t 4)), .q 12 [] (.ld (.t 11)), .e (some 13) [] (.call false 83 [(.t 12)]), .q 14 [] (.not (.t 13)), .q 15 [] (.mv (.t 14)), .q 16 [(15, false)] (.fa 1 (.t 4)), .q 17 [(15, false)] (.ld (.t 16)), .e (some 18) [(15, false)] (.call false 84 [(.t 17), (.c (.int .i64 (-100))), (.c (.int .i64 100))]), .q 19 [(15, false)] (.not (.t 18)), .q 20 [] (.pick (.t 15) (.c (.bool true)) (.t 19))]) t_sl16Liked_1)
theorem u_sl16Liked_2 (P : Program) (k : KT) (e : Env) (w : World) : vcK P t_sl16Liked_2 k e w = vcK P (.seq (.reg [0, 5, 6, 7, 20] [.q 11 [] (.fa 0 (.t 4)), .q 12 [] (.ld (.t 11)), .e (some 13) [] (.call false 83 [(.t 12)]), .q 14 [] (.not (.t 13)), .q 15 [] (.mv (.t 14)), .q 16 [(15, false)] (.fa 1 (.t 4)), .q 17 [(15, false)] (.ld (.t 16)), .e (some 18) [(15, false)] (.call false 84 [(.t 17), (.c (.int .i64 (-100))), (.c (.int .i64 100))]), .q 19 [(15, false)] (.not (.t 18)), .q 20 [] (.pick (.t 15) (.c (.bool true)) (.t 19))]) t_sl16Liked_1) k e w := rfl
def t_sl16Liked_3 : X := (.reg [0, 5, 6, 7] [.q 21 [] (.bin .add (.t 7) (.c (.int .i64 1))), .q 7 [] (.mv (.t 21))])
theorem u_sl16Liked_3 (P : Program) (k : KT) (e : Env) (w : World) : vcK P t_sl16Liked_3 k e w = vcK P (.reg [0, 5, 6, 7] [.q 21 [] (.bin .add (.t 7) (.c (.int .i64 1))), .q 7 [] (.mv (.t 21))]) k e w := rfl
def t_sl16Liked_4 : X := (.seq (.blk 1 (.seq (.reg [0, 4, 5, 6, 7] [.q 9 [] (.ia 2 (.t 5) (.t 7)), .q 10 [] (.lda 2 (.t 9)), .e (some 4) [] (.al 99 [(S []), (.int .i64 0)]), .e none [] (.st 2 (.t 4) (.t 10))]) t_sl16Liked_2)) t_sl16Liked_3)
theorem u_sl16Liked_4 (P : Program) (k : KT) (e : Env) (w : World) : vcK P t_sl16Liked_4 k e w = vcK P (.seq (.blk 1 (.seq (.reg [0, 4, 5, 6, 7] [.q 9 [] (.ia 2 (.t 5) (.t 7)), .q 10 [] (.lda 2 (.t 9)), .e (some 4) [] (.al 99 [(S []), (.int .i64 0)]), .e none [] (.st 2 (.t 4) (.t 10))]) t_sl16Liked_2)) t_sl16Liked_3) k e w := rfl
def t_sl16Liked_5 : X := (.seq (.cond (.t 8) .skip (.exit 0)) t_sl16Liked_4)
theorem u_sl16Liked_5 (P : Program) (k : KT) (e : Env) (w : World) : vcK P t_sl16Liked_5 k e w = vcK P (.seq (.cond (.t 8) .skip (.exit 0)) t_sl16Liked_4) k e w := rfl
def t_sl16Liked_6 : X := (.seq (.reg [0, 5, 6, 7, 8] [.q 8 [] (.bin .lss (.t 7) (.t 6))]) t_sl16Liked_5)
theorem u_sl16Liked_6 (P : Program) (k : KT) (e : Env) (w : World) : vcK P t_sl16Liked_6 k e w = vcK P (.seq (.reg [0, 5, 6, 7, 8] [.q 8 [] (.bin .lss (.t 7) (.t 6))]) t_sl16Liked_5) k e w := rfl
def t_sl16Liked_7 : X := (.blk 0 (.loop [7] [0, 5, 6] t_sl16Liked_6))
theorem u_sl16Liked_7 (P : Program) (k : KT) (e : Env) (w : World) : vcK P t_sl16Liked_7 k e w = vcK P (.blk 0 (.loop [7] [0, 5, 6] t_sl16Liked_6)) k e w := rfl
def t_sl16Liked_8 : X := (.seq (.reg [2] [.q 22 [] (.mv (.t 0)), .q 23 [] (.lens (.t 22)), .q 24 [] (.bin .leq (.t 23) (.c (.int .i64 8))), .q 2 [] (.mv (.t 24))]) .ret)
theorem u_sl16Liked_8 (P : Program) (k : KT) (e : Env) (w : World) : vcK P t_sl16Liked_8 k e w = vcK P (.seq (.reg [2] [.q 22 [] (.mv (.t 0)), .q 23 [] (.lens (.t 22)), .q 24 [] (.bin .leq (.t 23) (.c (.int .i64 8))), .q 2 [] (.mv (.t 24))]) .ret) k e w := rfl
def t_sl16Liked_9 : X := (.seq (.seq (.reg [0, 5, 6, 7] [.q 5 [] (.mv (.t 0)), .q 6 [] (.lens (.t 5)), .q 7 [] (.mv (.c (.int .i64 0)))]) t_sl16Liked_7) t_sl16Liked_8)
theorem u_sl16Liked_9 (P : Program) (k : KT) (e : Env) (w : World) : vcK P t_sl16Liked_9 k e w = vcK P (.seq (.seq (.reg [0, 5, 6, 7] [.q 5 [] (.mv (.t 0)), .q 6 [] (.lens (.t 5)), .q 7 [] (.mv (.c (.int .i64 0)))]) t_sl16Liked_7) t_sl16Liked_8) k e w := rfl
def x_sl16Liked : X := (.seq (.reg [0] [.q 2 [] (.mv (.c (.bool false)))]) t_sl16Liked_9)
theorem u_sl16Liked (P : Program) (k : KT) (e : Env) (w : World) : vcK P x_sl16Liked k e w = vcK P (.seq (.reg [0] [.q 2 [] (.mv (.c (.bool false)))]) t_sl16Liked_9) k e w := rfl
def r_sl16Liked : List XO := [(.mv (.t 2))]
theorem c_sl16Liked : convF Try.prog [] Try.f111 [([0], []), ([0, 5, 6, 7], []), ([7], [0, 5, 6]), ([0, 5, 6, 7, 8], []), ([0, 4, 5, 6, 7], []), ([0, 5, 6, 7, 20], []), ([2], []), ([0, 5, 6, 7], []), ([2], [])] = some (x_sl16Liked, r_sl16Liked) := by kernel_rfl
def us_sl16Liked := And.intro @u_sl16Liked (And.intro @u_sl16Liked_1 (And.intro @u_sl16Liked_2 (And.intro @u_sl16Liked_3 (And.intro @u_sl16Liked_4 (And.intro @u_sl16Liked_5 (And.intro @u_sl16Liked_6 (And.intro @u_sl16Liked_7 (And.intro @u_sl16Liked_8 @u_sl16Liked_9))))))))
def t_iGoodLiked_1 : X := (.cond (.t 20) (.seq (.reg [2] [.q 2 [] (.mv (.c (.bool false)))]) .ret) .skip)
theorem u_iGoodLiked_1 (P : Program) (k : KT) (e : Env) (w : World) : vcK P t_iGoodLiked_1 k e w = vcK P (.cond (.t 20) (.seq (.reg [2] [.q 2 [] (.mv (.c (.bool false)))]) .ret) .skip) k e w := rfl
def t_iGoodLiked_2 : X := (.seq (.reg [0, 5, 6, 7, 20] [.q 11 [] (.fa 0 (.t 4)), .q 12 [] (.ld (.t 11)), .e (some 13) [] (.call false 79 [(.t 12)]), .q 14 [] (.not (.t 13)), .q 15 [] (.mv (.t 14)), .q 16 [(15, false)] (.fa 1 (.t 4)), .q 17 [(15, false)] (.ld (.t 16)), .e (some 18) [(15, false)] (.call false 87 [(.t 17), (.c (.int .i64 (-100))), (.c (.int .i64 100))]), .q 19 [(15, false)] (.not (.t 18)), .q 20 [] (.pick (.t 15) (.c (.bool true)) (.t 19))]) t_iGoodLiked_1)
theorem u_iGoodLiked_2 (P : Program) (k : KT) (e : Env) (w : World) : vcK P t_iGoodLiked_2 k e w = vcK P (.seq (.reg [0, 5, 6, 7, 20] [.q 11 [] (.fa 0 (.t 4)), .q 12 [] (.ld (.t 11)), .e (some 13) [] (.call false 79 [(.t 12)]), .q 14 [] (.not (.t 13)), .q 15 [] (.mv (.t 14)), .q 16 [(15, false)] (.fa 1 (.t 4)), .q 17 [(15, false)] (.ld (.t 16)), .e (some 18) [(15, false)] (.call false 87 [(.t 17), (.c (.int .i64 (-100))), (.c (.int .i64 100))]), .q 19 [(15, false)] (.not (.t 18)), .q 20 [] (.pick (.t 15) (.c (.bool true)) (.t 19))]) t_iGoodLiked_1) k e w := rfl
def t_iGoodLiked_3 : X := (.reg [0, 5, 6, 7] [.q 21 [] (.bin .add (.t 7) (.c (.int .i64 1))), .q 7 [] (.mv (.t 21))])
theorem u_iGoodLiked_3 (P : Program) (k : KT) (e : Env) (w : World) : vcK P t_iGoodLiked_3 k e w = vcK P (.reg [0, 5, 6, 7] [.q 21 [] (.bin .add (.t 7) (.c (.int .i64 1))), .q 7 [] (.mv (.t 21))]) k e w := rfl
def t_iGoodLiked_4 : X := (.seq (.blk 1 (.seq (.reg [0, 4, 5, 6, 7] [.q 9 [] (.ia 2 (.t 5) (.t 7)), .q 10 [] (.lda 2 (.t 9)), .e (some 4) [] (.al 99 [(S []), (.int .i64 0)]), .e none [] (.st 2 (.t 4) (.t 10))]) t_iGoodLiked_2)) t_iGoodLiked_3)
theorem u_iGoodLiked_4 (P : Program) (k : KT) (e : Env) (w : World) : vcK P t_iGoodLiked_4 k e w = vcK P (.seq (.blk 1 (.seq (.reg [0, 4, 5, 6, 7] [.q 9 [] (.ia 2 (.t 5) (.t 7)), .q 10 [] (.lda 2 (.t 9)), .e (some 4) [] (.al 99 [(S []), (.int .i64 0)]), .e none [] (.st 2 (.t 4) (.t 10))]) t_iGoodLiked_2)) t_iGoodLiked_3) k e w := rfl
def t_iGoodLiked_5 : X := (.seq (.cond (.t 8) .skip (.exit 0)) t_iGoodLiked_4)
theorem u_iGoodLiked_5 (P : Program) (k : KT) (e : Env) (w : World) : vcK P t_iGoodLiked_5 k e w = vcK P (.seq (.cond (.t 8) .skip (.exit 0)) t_iGoodLiked_4) k e w := rfl
def t_iGoodLiked_6 : X := (.seq (.reg [0, 5, 6, 7, 8] [.q 8 [] (.bin .lss (.t 7) (.t 6))]) t_iGoodLiked_5)
theorem u_iGoodLiked_6 (P : Program) (k : KT) (e : Env) (w : World) : vcK P t_iGoodLiked_6 k e w = vcK P (.seq (.reg [0, 5, 6, 7, 8] [.q 8 [] (.bin .lss (.t 7) (.t 6))]) t_iGoodLiked_5) k e w := rfl
def t_iGoodLiked_7 : X := (.blk 0 (.loop [7] [0, 5, 6] t_iGoodLiked_6))
theorem u_iGoodLiked_7 (P : Program) (k : KT) (e : Env) (w : World) : vcK P t_iGoodLiked_7 k e w = vcK P (.blk 0 (.loop [7] [0, 5, 6] t_iGoodLiked_6)) k e w := rfl
def t_iGoodLiked_8 : X := (.seq (.reg [2] [.q 22 [] (.mv (.t 0)), .q 23 [] (.lens (.t 22)), .q 24 [] (.bin .leq (.t 23) (.c (.int .i64 8))), .q 2 [] (.mv (.t 24))]) .ret)
theorem u_iGoodLiked_8 (P : Program) (k : KT) (e : Env) (w : World) : vcK P t_iGoodLiked_8 k e w = vcK P (.seq (.reg [2] [.q 22 [] (.mv (.t 0)), .q 23 [] (.lens (.t 22)), .q 24 [] (.bin .leq (.t 23) (.c (.int .i64 8))), .q 2 [] (.mv (.t 24))]) .ret) k e w := rfl
def t_iGoodLiked_9 : X := (.seq (.seq (.reg [0, 5, 6, 7] [.q 5 [] (.mv (.t 0)), .q 6 [] (.lens (.t 5)), .q 7 [] (.mv (.c (.int .i64 0)))]) t_iGoodLiked_7) t_iGoodLiked_8)
theorem u_iGoodLiked_9 (P : Program) (k : KT) (e : Env) (w : World) : vcK P t_iGoodLiked_9 k e w = vcK P (.seq (.seq (.reg [0, 5, 6, 7] [.q 5 [] (.mv (.t 0)), .q 6 [] (.lens (.t 5)), .q 7 [] (.mv (.c (.int .i64 0)))]) t_iGoodLiked_7) t_iGoodLiked_8) k e w := rfl
def x_iGoodLiked : X := (.seq (.reg [0] [.q 2 [] (.mv (.c (.bool false)))]) t_iGoodLiked_9)
theorem u_iGoodLiked (P : Program) (k : KT) (e : Env) (w : World) : vcK P x_iGoodLiked k e w = vcK P (.seq (.reg [0] [.q 2 [] (.mv (.c (.bool false)))]) t_iGoodLiked_9) k e w := rfl
def r_iGoodLiked : List XO := [(.mv (.t 2))]
theorem c_iGoodLiked : convF Try.prog [] Try.f114 [([0], []), ([0, 5, 6, 7], []), ([7], [0, 5, 6]), ([0, 5, 6, 7, 8], []), ([0, 4, 5, 6, 7], []), ([0, 5, 6, 7, 20], []), ([2], []), ([0, 5, 6, 7], []), ([2], [])] = some (x_iGoodLiked, r_iGoodLiked) := by kernel_rfl
def us_iGoodLiked := And.intro @u_iGoodLiked (And.intro @u_iGoodLiked_1 (And.intro @u_iGoodLiked_2 (And.intro @u_iGoodLiked_3 (And.intro @u_iGoodLiked_4 (And.intro @u_iGoodLiked_5 (And.intro @u_iGoodLiked_6 (And.intro @u_iGoodLiked_7 (And.intro @u_iGoodLiked_8 @u_iGoodLiked_9))))))))
def t_leqLiked_1 : X := (.cond (.t 9) (.seq (.reg [4] [.q 4 [] (.mv (.c (.bool false)))]) .ret) .skip)
theorem u_leqLiked_1 (P : Program) (k : KT) (e : Env) (w : World) : vcK P t_leqLiked_1 k e w = vcK P (.cond (.t 9) (.seq (.reg [4] [.q 4 [] (.mv (.c (.bool false)))]) .ret) .skip) k e w := rfl
def t_leqLiked_2 : X := (.cond (.t 14) (.seq (.reg [4] [.q 4 [] (.mv (.c (.bool false)))]) .ret) .skip)
theorem u_leqLiked_2 (P : Program) (k : KT) (e : Env) (w : World) : vcK P t_leqLiked_2 k e w = vcK P (.cond (.t 14) (.seq (.reg [4] [.q 4 [] (.mv (.c (.bool false)))]) .ret) .skip) k e w := rfl
def t_leqLiked_3 : X := (.seq (.reg [4] [.q 4 [] (.mv (.c (.bool true)))]) .ret)
theorem u_leqLiked_3 (P : Program) (k : KT) (e : Env) (w : World) : vcK P t_leqLiked_3 k e w = vcK P (.seq (.reg [4] [.q 4 [] (.mv (.c (.bool true)))]) .ret) k e w := rfl
def t_leqLiked_4 : X := (.seq (.seq (.reg [14] [.q 10 [] (.fa 1 (.t 2)), .q 11 [] (.ld (.t 10)), .q 12 [] (.fa 1 (.t 3)), .q 13 [] (.ld (.t 12)), .q 14 [] (.bin .neq (.t 11) (.t 13))]) t_leqLiked_2) t_leqLiked_3)
theorem u_leqLiked_4 (P : Program) (k : KT) (e : Env) (w : World) : vcK P t_leqLiked_4 k e w = vcK P (.seq (.seq (.reg [14] [.q 10 [] (.fa 1 (.t 2)), .q 11 [] (.ld (.t 10)), .q 12 [] (.fa 1 (.t 3)), .q 13 [] (.ld (.t 12)), .q 14 [] (.bin .neq (.t 11) (.t 13))]) t_leqLiked_2) t_leqLiked_3) k e w := rfl
def t_leqLiked_5 : X := (.seq (.seq (.reg [2, 3, 9] [.q 5 [] (.fa 0 (.t 2)), .q 6 [] (.ld (.t 5)), .q 7 [] (.fa 0 (.t 3)), .q 8 [] (.ld (.t 7)), .q 9 [] (.bin .neq (.t 6) (.t 8))]) t_leqLiked_1) t_leqLiked_4)
theorem u_leqLiked_5 (P : Program) (k : KT) (e : Env) (w : World) : vcK P t_leqLiked_5 k e w = vcK P (.seq (.seq (.reg [2, 3, 9] [.q 5 [] (.fa 0 (.t 2)), .q 6 [] (.ld (.t 5)), .q 7 [] (.fa 0 (.t 3)), .q 8 [] (.ld (.t 7)), .q 9 [] (.bin .neq (.t 6) (.t 8))]) t_leqLiked_1) t_leqLiked_4) k e w := rfl
def x_leqLiked : X := (.seq (.reg [2, 3] [.e (some 2) [] (.box 99 (.t 0)), .e (some 3) [] (.box 99 (.t 1)), .q 4 [] (.mv (.c (.bool false)))]) t_leqLiked_5)
theorem u_leqLiked (P : Program) (k : KT) (e : Env) (w : World) : vcK P x_leqLiked k e w = vcK P (.seq (.reg [2, 3] [.e (some 2) [] (.box 99 (.t 0)), .e (some 3) [] (.box 99 (.t 1)), .q 4 [] (.mv (.c (.bool false)))]) t_leqLiked_5) k e w := rfl
def r_leqLiked : List XO := [(.mv (.t 4))]
theorem c_leqLiked : convF Try.prog [] Try.f116 [([2, 3], []), ([2, 3, 9], []), ([4], []), ([14], []), ([4], []), ([4], [])] = some (x_leqLiked, r_leqLiked) := by kernel_rfl
def us_leqLiked := And.intro @u_leqLiked (And.intro @u_leqLiked_1 (And.intro @u_leqLiked_2 (And.intro @u_leqLiked_3 (And.intro @u_leqLiked_4 @u_leqLiked_5))))
def t_leqLikedS_1 : X := (.cond (.t 10) (.seq (.reg [4] [.q 4 [] (.mv (.c (.bool false)))]) .ret) .skip)
theorem u_leqLikedS_1 (P : Program) (k : KT) (e : Env) (w : World) : vcK P t_leqLikedS_1 k e w = vcK P (.cond (.t 10) (.seq (.reg [4] [.q 4 [] (.mv (.c (.bool false)))]) .ret) .skip) k e w := rfl
def t_leqLikedS_2 : X := (.cond (.t 14) .skip (.exit 0))
theorem u_leqLikedS_2 (P : Program) (k : KT) (e : Env) (w : World) : vcK P t_leqLikedS_2 k e w = vcK P (.cond (.t 14) .skip (.exit 0)) k e w := rfl
def t_leqLikedS_3 : X := (.cond (.t 26) (.seq (.reg [4] [.q 4 [] (.mv (.c (.bool false)))]) .ret) .skip)
theorem u_leqLikedS_3 (P : Program) (k : KT) (e : Env) (w : World) : vcK P t_leqLikedS_3 k e w = vcK P (.cond (.t 26) (.seq (.reg [4] [.q 4 [] (.mv (.c (.bool false)))]) .ret) .skip) k e w := rfl
def t_leqLikedS_4 : X := (.reg [0, 1, 5] [.q 15 [] (.mv (.t 5)), .q 16 [] (.bin .add (.t 15) (.c (.int .i64 1))), .q 5 [] (.mv (.t 16))])
theorem u_leqLikedS_4 (P : Program) (k : KT) (e : Env) (w : World) : vcK P t_leqLikedS_4 k e w = vcK P (.reg [0, 1, 5] [.q 15 [] (.mv (.t 5)), .q 16 [] (.bin .add (.t 15) (.c (.int .i64 1))), .q 5 [] (.mv (.t 16))]) k e w := rfl
def t_leqLikedS_5 : X := (.seq (.blk 1 (.seq (.drw [0, 1, 5, 26] [.q 17 [] (.mv (.t 0)), .q 18 [] (.mv (.t 5)), .q 19 [] (.ia 2 (.t 17) (.t 18)), .q 20 [] (.lda 2 (.t 19)), .q 21 [] (.mv (.t 1)), .q 22 [] (.mv (.t 5)), .q 23 [] (.ia 2 (.t 21) (.t 22)), .q 24 [] (.lda 2 (.t 23)), .e (some 25) [] (.call false 116 [(.t 20), (.t 24)]), .q 26 [] (.not (.t 25))]) t_leqLikedS_3)) t_leqLikedS_4)
theorem u_leqLikedS_5 (P : Program) (k : KT) (e : Env) (w : World) : vcK P t_leqLikedS_5 k e w = vcK P (.seq (.blk 1 (.seq (.drw [0, 1, 5, 26] [.q 17 [] (.mv (.t 0)), .q 18 [] (.mv (.t 5)), .q 19 [] (.ia 2 (.t 17) (.t 18)), .q 20 [] (.lda 2 (.t 19)), .q 21 [] (.mv (.t 1)), .q 22 [] (.mv (.t 5)), .q 23 [] (.ia 2 (.t 21) (.t 22)), .q 24 [] (.lda 2 (.t 23)), .e (some 25) [] (.call false 116 [(.t 20), (.t 24)]), .q 26 [] (.not (.t 25))]) t_leqLikedS_3)) t_leqLikedS_4) k e w := rfl
def t_leqLikedS_6 : X := (.seq (.seq (.reg [0, 1, 5, 14] [.q 11 [] (.mv (.t 5)), .q 12 [] (.mv (.t 0)), .q 13 [] (.lens (.t 12)), .q 14 [] (.bin .lss (.t 11) (.t 13))]) t_leqLikedS_2) t_leqLikedS_5)
theorem u_leqLikedS_6 (P : Program) (k : KT) (e : Env) (w : World) : vcK P t_leqLikedS_6 k e w = vcK P (.seq (.seq (.reg [0, 1, 5, 14] [.q 11 [] (.mv (.t 5)), .q 12 [] (.mv (.t 0)), .q 13 [] (.lens (.t 12)), .q 14 [] (.bin .lss (.t 11) (.t 13))]) t_leqLikedS_2) t_leqLikedS_5) k e w := rfl
def t_leqLikedS_7 : X := (.blk 0 (.loop [5] [0, 1] t_leqLikedS_6))
theorem u_leqLikedS_7 (P : Program) (k : KT) (e : Env) (w : World) : vcK P t_leqLikedS_7 k e w = vcK P (.blk 0 (.loop [5] [0, 1] t_leqLikedS_6)) k e w := rfl
def t_leqLikedS_8 : X := (.seq (.reg [4] [.q 4 [] (.mv (.c (.bool true)))]) .ret)
theorem u_leqLikedS_8 (P : Program) (k : KT) (e : Env) (w : World) : vcK P t_leqLikedS_8 k e w = vcK P (.seq (.reg [4] [.q 4 [] (.mv (.c (.bool true)))]) .ret) k e w := rfl
def t_leqLikedS_9 : X := (.seq (.seq (.reg [0, 1, 5] [.q 5 [] (.mv (.c (.int .i64 0)))]) t_leqLikedS_7) t_leqLikedS_8)
theorem u_leqLikedS_9 (P : Program) (k : KT) (e : Env) (w : World) : vcK P t_leqLikedS_9 k e w = vcK P (.seq (.seq (.reg [0, 1, 5] [.q 5 [] (.mv (.c (.int .i64 0)))]) t_leqLikedS_7) t_leqLikedS_8) k e w := rfl
def t_leqLikedS_10 : X := (.seq (.seq (.reg [0, 1, 10] [.q 6 [] (.mv (.t 0)), .q 7 [] (.lens (.t 6)), .q 8 [] (.mv (.t 1)), .q 9 [] (.lens (.t 8)), .q 10 [] (.bin .neq (.t 7) (.t 9))]) t_leqLikedS_1) t_leqLikedS_9)
theorem u_leqLikedS_10 (P : Program) (k : KT) (e : Env) (w : World) : vcK P t_leqLikedS_10 k e w = vcK P (.seq (.seq (.reg [0, 1, 10] [.q 6 [] (.mv (.t 0)), .q 7 [] (.lens (.t 6)), .q 8 [] (.mv (.t 1)), .q 9 [] (.lens (.t 8)), .q 10 [] (.bin .neq (.t 7) (.t 9))]) t_leqLikedS_1) t_leqLikedS_9) k e w := rfl
def x_leqLikedS : X := (.seq (.reg [0, 1] [.q 4 [] (.mv (.c (.bool false)))]) t_leqLikedS_10)
theorem u_leqLikedS (P : Program) (k : KT) (e : Env) (w : World) : vcK P x_leqLikedS k e w = vcK P (.seq (.reg [0, 1] [.q 4 [] (.mv (.c (.bool false)))]) t_leqLikedS_10) k e w := rfl
def r_leqLikedS : List XO := [(.mv (.t 4))]
theorem c_leqLikedS : convF Try.prog [] Try.f42 [([0, 1], []), ([0, 1, 10], []), ([4], []), ([0, 1, 5], []), ([5], [0, 1]), ([0, 1, 5, 14], []), ([0, 1, 5, 26], []), ([4], []), ([0, 1, 5], []), ([4], [])] = some (x_leqLikedS, r_leqLikedS) := by kernel_rfl
def us_leqLikedS := And.intro @u_leqLikedS (And.intro @u_leqLikedS_1 (And.intro @u_leqLikedS_2 (And.intro @u_leqLikedS_3 (And.intro @u_leqLikedS_4 (And.intro @u_leqLikedS_5 (And.intro @u_leqLikedS_6 (And.intro @u_leqLikedS_7 (And.intro @u_leqLikedS_8 (And.intro @u_leqLikedS_9 @u_leqLikedS_10)))))))))

/-- A pattern and its weight. -/
structure LK where
  pat : List UInt8
  wt : Int
deriving DecidableEq
def fK (x : LK) : List Value := [S x.pat, .int .i64 x.wt]
theorem fK_len (a : LK) : (fK a).length = 2 := rfl
theorem fK_one : ∀ a, ∀ u ∈ fK a, u.oneCell' = true := fun a u h => by simp only [fK, List.mem_cons, List.not_mem_nil, or_false] at h; rcases h with rfl | rfl <;> rfl
def szK (x : LK) (n : Int) : Int := if n - x.pat.length < 0 then -1 else n - x.pat.length
theorem fKg (x : LK) : (∀ v, (fK x).getD 0 v = S x.pat) ∧ (∀ v, (fK x).getD 1 v = .int .i64 x.wt) ∧ (fK x).length = 2 := ⟨fun _ => rfl, fun _ => rfl, rfl⟩
theorem lszLiked_ok (x : LK) (n : Int) (hn : -9223372036854775808 ≤ n - x.pat.length ∧ n ≤ 1048576) (w : World) : Fn 110 [.agg ⟨fK x⟩, .int .i64 n] w (fun v _ => v = .int .i64 (szK x n)) := by
  (refine callsV_of mix Try.func110 c_lszLiked ?_; simp only [↓vsd, vsn, gW, qd, qv, ev, pick, argE, List.map_cons, List.map_nil, Option.map_some, Option.map_none, zipE, List.cons_append, List.nil_append, ne_eq, eq_self, forall_const, implies_true, if_true, if_false, reduceIte, List.cons.injEq, reduceCtorEq, Nat.reduceEqDiff, List.length_nil, List.length_cons, Nat.reduceAdd, Nat.reduceLT, ↓us_lszLiked, r_lszLiked])
  refine m_al ?_
  rintro b w1 hb hblk hx1 hs1
  simp only [↓vsd, vsn, gW, qd, qv, ev, pick, argE, List.map_cons, List.map_nil, Option.map_some, Option.map_none, zipE, List.cons_append, List.nil_append, ne_eq, eq_self, forall_const, implies_true, if_true, if_false, reduceIte, List.cons.injEq, reduceCtorEq, Nat.reduceEqDiff, List.length_nil, List.length_cons, Nat.reduceAdd, Nat.reduceLT, ↓us_lszLiked, r_lszLiked, hblk.facts, fKg]
  exact ⟨inR_i64 (by omega), fun h => ⟨hx1, by rw [szK, if_pos h]⟩, fun h => ⟨hx1, by rw [szK, if_neg (by omega)]⟩⟩
theorem lszLikedS_ok (v : Value) (l : List LK) (hl : l.length ≤ 9223372036854775807) (hs : ∀ x ∈ l, x.pat.length ≤ 9223372036854775807) (w : World) (h : Sq fK 2 w v l) :
    Fn 38 [v, .int .i64 1048576] w (fun v _ => ∃ m : Int, v = .int .i64 m ∧ m ≤ 1048576 ∧ (0 ≤ m → l.length ≤ 1048576 ∧ ∀ x ∈ l, x.pat.length ≤ 1048576)) := by
  (refine callsV_of mix Try.func38 c_lszLikedS ?_; simp only [↓vsd, vsn, gW, qd, qv, ev, pick, argE, List.map_cons, List.map_nil, Option.map_some, Option.map_none, zipE, List.cons_append, List.nil_append, ne_eq, eq_self, forall_const, implies_true, if_true, if_false, reduceIte, List.cons.injEq, reduceCtorEq, Nat.reduceEqDiff, List.length_nil, List.length_cons, Nat.reduceAdd, Nat.reduceLT, ↓us_lszLikedS, r_lszLikedS])
  simp only [↓vsd, vsn, gW, qd, qv, ev, pick, argE, List.map_cons, List.map_nil, Option.map_some, Option.map_none, zipE, List.cons_append, List.nil_append, ne_eq, eq_self, forall_const, implies_true, if_true, if_false, reduceIte, List.cons.injEq, reduceCtorEq, Nat.reduceEqDiff, List.length_nil, List.length_cons, Nat.reduceAdd, Nat.reduceLT, ↓us_lszLikedS, r_lszLikedS, h.facts]
  refine ⟨inR_i64 (by omega), fun hlt => ⟨Ext.refl _, -1, rfl, by omega, fun h => by omega⟩, fun hge => ?_⟩
  refine m_upto l.length (fun k vs w' => ∃ m : Int, vs = [.int .i64 m, .int .i64 k] ∧ 0 ≤ m ∧ m ≤ 1048576 ∧ (∀ x ∈ l.take k, x.pat.length ≤ 1048576) ∧ Ext w w') ⟨_, rfl, by omega, by omega, by simp, Ext.refl _⟩ ?_
  rintro k vs w1 hk ⟨m, rfl, h0, h1, hall, hx⟩
  have hq := h.ext hx
  by_cases hlt : k < l.length
  · simp only [↓vsd, vsn, gW, qd, qv, ev, pick, argE, List.map_cons, List.map_nil, Option.map_some, Option.map_none, zipE, List.cons_append, List.nil_append, ne_eq, eq_self, forall_const, implies_true, if_true, if_false, reduceIte, List.cons.injEq, reduceCtorEq, Nat.reduceEqDiff, List.length_nil, List.length_cons, Nat.reduceAdd, Nat.reduceLT, ↓us_lszLikedS, r_lszLikedS, hq.facts, hq.ata ⟨[], 0⟩ hlt]
    refine ⟨fun _ => ⟨by omega, ?_⟩, fun h => by omega⟩
    have hmem : l.getD k ⟨[], 0⟩ ∈ l := by rw [List.getD_eq_getElem?_getD, List.getElem?_eq_getElem hlt]; exact List.getElem_mem hlt
    have := hs _ hmem
    refine m_call (lszLiked_ok _ m (by omega) _) ?_
    rintro _ w2 hx2 rfl
    simp only [↓vsd, vsn, gW, qd, qv, ev, pick, argE, List.map_cons, List.map_nil, Option.map_some, Option.map_none, zipE, List.cons_append, List.nil_append, ne_eq, eq_self, forall_const, implies_true, if_true, if_false, reduceIte, List.cons.injEq, reduceCtorEq, Nat.reduceEqDiff, List.length_nil, List.length_cons, Nat.reduceAdd, Nat.reduceLT, ↓us_lszLikedS, r_lszLikedS]
    unfold szK
    split
    · refine ⟨fun _ => ⟨hx.trans hx2, -1, rfl, by omega, fun h => by omega⟩, fun h => by omega⟩
    · refine ⟨fun _ => by omega, fun _ => ⟨inR_i64 (by omega), UpTo.next hlt ⟨_, rfl, by omega, by omega, fun x hx => ?_, hx.trans hx2⟩⟩⟩
      rw [List.take_add_one, List.getElem?_eq_getElem hlt] at hx
      rcases List.mem_append.1 hx with h | h
      · exact hall x h
      · rw [List.getD_eq_getElem?_getD, List.getElem?_eq_getElem hlt] at *
        simp only [Option.toList_some, List.mem_singleton, Option.getD_some] at *
        subst h
        omega
  · obtain rfl : k = l.length := by omega
    simp only [↓vsd, vsn, gW, qd, qv, ev, pick, argE, List.map_cons, List.map_nil, Option.map_some, Option.map_none, zipE, List.cons_append, List.nil_append, ne_eq, eq_self, forall_const, implies_true, if_true, if_false, reduceIte, List.cons.injEq, reduceCtorEq, Nat.reduceEqDiff, List.length_nil, List.length_cons, Nat.reduceAdd, Nat.reduceLT, ↓us_lszLikedS, r_lszLikedS, hq.facts]
    exact ⟨fun h => by omega, fun _ => ⟨hx, m, rfl, h1, fun _ => ⟨by omega, by simpa using hall⟩⟩⟩
theorem ltoLiked_ok (x : LK) (w : World) : Fn 113 [.agg ⟨fK x⟩] w (fun v w' => v = .agg ⟨fK x⟩) := by
  (refine callsV_of mix Try.func113 c_ltoLiked ?_; simp only [↓vsd, vsn, gW, qd, qv, ev, pick, argE, List.map_cons, List.map_nil, Option.map_some, Option.map_none, zipE, List.cons_append, List.nil_append, ne_eq, eq_self, forall_const, implies_true, if_true, if_false, reduceIte, List.cons.injEq, reduceCtorEq, Nat.reduceEqDiff, List.length_nil, List.length_cons, Nat.reduceAdd, Nat.reduceLT, ↓us_ltoLiked, r_ltoLiked])
  refine m_al ?_
  rintro b w1 hb hblk hx1 hs1
  simp only [↓vsd, vsn, gW, qd, qv, ev, pick, argE, List.map_cons, List.map_nil, Option.map_some, Option.map_none, zipE, List.cons_append, List.nil_append, ne_eq, eq_self, forall_const, implies_true, if_true, if_false, reduceIte, List.cons.injEq, reduceCtorEq, Nat.reduceEqDiff, List.length_nil, List.length_cons, Nat.reduceAdd, Nat.reduceLT, ↓us_ltoLiked, r_ltoLiked, hblk.facts, fKg]
  refine m_al ?_
  rintro b2 w2 hb2 hblk2 hx2 hs2
  have h1 := (hblk.ext hx2)
  simp only [↓vsd, vsn, gW, qd, qv, ev, pick, argE, List.map_cons, List.map_nil, Option.map_some, Option.map_none, zipE, List.cons_append, List.nil_append, ne_eq, eq_self, forall_const, implies_true, if_true, if_false, reduceIte, List.cons.injEq, reduceCtorEq, Nat.reduceEqDiff, List.length_nil, List.length_cons, Nat.reduceAdd, Nat.reduceLT, ↓us_ltoLiked, r_ltoLiked, h1.facts, fKg]
  refine m_al ?_
  rintro b3 w3 hb3 hblk3 hx3 hs3
  have h1 := (h1.ext hx3)
  simp only [↓vsd, vsn, gW, qd, qv, ev, pick, argE, List.map_cons, List.map_nil, Option.map_some, Option.map_none, zipE, List.cons_append, List.nil_append, ne_eq, eq_self, forall_const, implies_true, if_true, if_false, reduceIte, List.cons.injEq, reduceCtorEq, Nat.reduceEqDiff, List.length_nil, List.length_cons, Nat.reduceAdd, Nat.reduceLT, ↓us_ltoLiked, r_ltoLiked, h1.facts, fKg]
  refine m_st hblk3 rfl (by simp) (fS_one _) ?_
  rintro w4 hblk4 hu4
  have h1 := hu4.blk h1 (by omega)
  simp only [↓vsd, vsn, gW, qd, qv, ev, pick, argE, List.map_cons, List.map_nil, Option.map_some, Option.map_none, zipE, List.cons_append, List.nil_append, ne_eq, eq_self, forall_const, implies_true, if_true, if_false, reduceIte, List.cons.injEq, reduceCtorEq, Nat.reduceEqDiff, List.length_nil, List.length_cons, Nat.reduceAdd, Nat.reduceLT, ↓us_ltoLiked, r_ltoLiked, h1.facts, fKg]
  refine m_st hblk4 rfl (Nat.le_refl 2) (fI_one _) ?_
  rintro w5 hblk5 hu5
  have h5 : Blk w5 b3 (fK x) 99 := hblk5
  have hx : Ext w w5 := hu5.below (hu4.below ((hx1.trans hx2).trans hx3) (by omega)) (by omega)
  simp only [↓vsd, vsn, gW, qd, qv, ev, pick, argE, List.map_cons, List.map_nil, Option.map_some, Option.map_none, zipE, List.cons_append, List.nil_append, ne_eq, eq_self, forall_const, implies_true, if_true, if_false, reduceIte, List.cons.injEq, reduceCtorEq, Nat.reduceEqDiff, List.length_nil, List.length_cons, Nat.reduceAdd, Nat.reduceLT, ↓us_ltoLiked, r_ltoLiked, h5.facts, fKg]
  refine m_st (hu5.blk (hu4.blk (hblk2.ext hx3) (by omega)) (by omega)) rfl (Nat.le_refl 2) (fK_one _) ?_
  rintro w6 hblk6 hu6
  have h6 : Blk w6 b2 (fK x) 99 := hblk6
  have hx : Ext w w6 := hu6.below hx (by omega)
  simp only [↓vsd, vsn, gW, qd, qv, ev, pick, argE, List.map_cons, List.map_nil, Option.map_some, Option.map_none, zipE, List.cons_append, List.nil_append, ne_eq, eq_self, forall_const, implies_true, if_true, if_false, reduceIte, List.cons.injEq, reduceCtorEq, Nat.reduceEqDiff, List.length_nil, List.length_cons, Nat.reduceAdd, Nat.reduceLT, ↓us_ltoLiked, r_ltoLiked, h6.facts, fKg]
  exact hx
theorem fill_set {α : Type} (l : List α) (d : α) (k : Nat) (h : k < l.length) : (l.take k ++ List.replicate (l.length - k) d).set k (l.getD k d) = l.take (k + 1) ++ List.replicate (l.length - (k + 1)) d := by
  rw [List.set_append_right _ _ (by simp; omega), List.length_take, Nat.min_eq_left (by omega), Nat.sub_self, show l.length - k = (l.length - (k + 1)) + 1 by omega, List.replicate_succ, List.set_cons_zero, List.take_add_one, List.getElem?_eq_getElem h, List.getD_eq_getElem?_getD, List.getElem?_eq_getElem h]
  simp only [Option.toList_some, Option.getD_some, List.append_assoc, List.cons_append, List.nil_append]
theorem ne_at {α : Type} {l l' : List α} {d : α} (k : Nat) (h : ¬ l.getD k d = l'.getD k d) : ¬ l = l' := fun e => h (by rw [e])
theorem eq_take {α : Type} {l l' : List α} {d : α} {k : Nat} (h : l.take k = l'.take k) (h1 : k < l.length) (h2 : k < l'.length) (e : l.getD k d = l'.getD k d) : l.take (k + 1) = l'.take (k + 1) := by
  rw [List.getD_eq_getElem?_getD, List.getD_eq_getElem?_getD, List.getElem?_eq_getElem h1, List.getElem?_eq_getElem h2, Option.getD_some, Option.getD_some] at e
  rw [List.take_add_one, List.take_add_one, h, List.getElem?_eq_getElem h1, List.getElem?_eq_getElem h2, e]
theorem eq_len {α : Type} {l l' : List α} (h : l.take l.length = l'.take l.length) (e : l.length = l'.length) : l = l' := by
  rw [List.take_length, e, List.take_length] at h; exact h
theorem ltoLikedS_ok (v : Value) (l : List LK) (hl : l.length ≤ 1048576) (w : World) (h : Sq fK 2 w v l) : Fn 40 [v] w (fun v' w' => Own fK 2 99 w.heap.size w' v' l) := by
  (refine callsV_of mix Try.func40 c_ltoLikedS ?_; simp only [↓vsd, vsn, gW, qd, qv, ev, pick, argE, List.map_cons, List.map_nil, Option.map_some, Option.map_none, zipE, List.cons_append, List.nil_append, ne_eq, eq_self, forall_const, implies_true, if_true, if_false, reduceIte, List.cons.injEq, reduceCtorEq, Nat.reduceEqDiff, List.length_nil, List.length_cons, Nat.reduceAdd, Nat.reduceLT, ↓us_ltoLikedS, r_ltoLikedS])
  simp only [↓vsd, vsn, gW, qd, qv, ev, pick, argE, List.map_cons, List.map_nil, Option.map_some, Option.map_none, zipE, List.cons_append, List.nil_append, ne_eq, eq_self, forall_const, implies_true, if_true, if_false, reduceIte, List.cons.injEq, reduceCtorEq, Nat.reduceEqDiff, List.length_nil, List.length_cons, Nat.reduceAdd, Nat.reduceLT, ↓us_ltoLikedS, r_ltoLikedS, h.facts]
  refine m_msl (f := fK) (B := w.heap.size) ⟨[], 0⟩ fK_len rfl (by omega) (by decide) (Nat.le_refl _) ?_
  rintro vo w1 ho1 _ hx1
  simp only [↓vsd, vsn, gW, qd, qv, ev, pick, argE, List.map_cons, List.map_nil, Option.map_some, Option.map_none, zipE, List.cons_append, List.nil_append, ne_eq, eq_self, forall_const, implies_true, if_true, if_false, reduceIte, List.cons.injEq, reduceCtorEq, Nat.reduceEqDiff, List.length_nil, List.length_cons, Nat.reduceAdd, Nat.reduceLT, ↓us_ltoLikedS, r_ltoLikedS]
  refine m_upto l.length (fun k vs w' => vs = [.int .i64 k] ∧ Own fK 2 99 w.heap.size w' vo (l.take k ++ List.replicate (l.length - k) ⟨[], 0⟩) ∧ Ext w w') ⟨rfl, by simpa using ho1, hx1⟩ ?_
  rintro k vs w2 hk ⟨rfl, ho2, hx2⟩
  have hq := h.ext hx2
  by_cases hlt : k < l.length
  · simp only [↓vsd, vsn, gW, qd, qv, ev, pick, argE, List.map_cons, List.map_nil, Option.map_some, Option.map_none, zipE, List.cons_append, List.nil_append, ne_eq, eq_self, forall_const, implies_true, if_true, if_false, reduceIte, List.cons.injEq, reduceCtorEq, Nat.reduceEqDiff, List.length_nil, List.length_cons, Nat.reduceAdd, Nat.reduceLT, ↓us_ltoLikedS, r_ltoLikedS, hq.facts, hq.ata ⟨[], 0⟩ hlt]
    refine ⟨fun _ => ⟨by omega, m_call (ltoLiked_ok _ _) ?_⟩, fun h => by omega⟩
    rintro _ w3 hx3 rfl
    have ho3 := ho2.ext hx3
    simp only [↓vsd, vsn, gW, qd, qv, ev, pick, argE, List.map_cons, List.map_nil, Option.map_some, Option.map_none, zipE, List.cons_append, List.nil_append, ne_eq, eq_self, forall_const, implies_true, if_true, if_false, reduceIte, List.cons.injEq, reduceCtorEq, Nat.reduceEqDiff, List.length_nil, List.length_cons, Nat.reduceAdd, Nat.reduceLT, ↓us_ltoLikedS, r_ltoLikedS, ho3.sq.facts]
    have hlen : (l.take k ++ List.replicate (l.length - k) (⟨[], 0⟩ : LK)).length = l.length := by simp; omega
    rw [hlen]
    refine ⟨by omega, m_set1 k (l.getD k ⟨[], 0⟩) ho3 rfl (by omega) rfl fK_one ?_⟩
    rintro w4 ho4 hg4 _
    simp only [↓vsd, vsn, gW, qd, qv, ev, pick, argE, List.map_cons, List.map_nil, Option.map_some, Option.map_none, zipE, List.cons_append, List.nil_append, ne_eq, eq_self, forall_const, implies_true, if_true, if_false, reduceIte, List.cons.injEq, reduceCtorEq, Nat.reduceEqDiff, List.length_nil, List.length_cons, Nat.reduceAdd, Nat.reduceLT, ↓us_ltoLikedS, r_ltoLikedS]
    refine ⟨inR_i64 (by omega), UpTo.next hlt ⟨rfl, ho4.to ?_, ho3.grown (hx2.trans hx3) (Nat.le_refl _) hg4⟩⟩
    exact fill_set l ⟨[], 0⟩ k hlt
  · obtain rfl : k = l.length := by omega
    simp only [↓vsd, vsn, gW, qd, qv, ev, pick, argE, List.map_cons, List.map_nil, Option.map_some, Option.map_none, zipE, List.cons_append, List.nil_append, ne_eq, eq_self, forall_const, implies_true, if_true, if_false, reduceIte, List.cons.injEq, reduceCtorEq, Nat.reduceEqDiff, List.length_nil, List.length_cons, Nat.reduceAdd, Nat.reduceLT, ↓us_ltoLikedS, r_ltoLikedS, hq.facts]
    exact ⟨fun h => by omega, fun _ => ⟨hx2, ho2.to (by simp)⟩⟩
theorem leqLiked_ok (x y : LK) (w : World) : Fn 116 [.agg ⟨fK x⟩, .agg ⟨fK y⟩] w (fun v _ => v = .bool (decide (x = y))) := by
  (refine callsV_of mix Try.func116 c_leqLiked ?_; simp only [↓vsd, vsn, gW, qd, qv, ev, pick, argE, List.map_cons, List.map_nil, Option.map_some, Option.map_none, zipE, List.cons_append, List.nil_append, ne_eq, eq_self, forall_const, implies_true, if_true, if_false, reduceIte, List.cons.injEq, reduceCtorEq, Nat.reduceEqDiff, List.length_nil, List.length_cons, Nat.reduceAdd, Nat.reduceLT, ↓us_leqLiked, r_leqLiked])
  refine m_al ?_
  rintro b1 w1 hb1 hblk1 hx1 hs1
  simp only [↓vsd, vsn, gW, qd, qv, ev, pick, argE, List.map_cons, List.map_nil, Option.map_some, Option.map_none, zipE, List.cons_append, List.nil_append, ne_eq, eq_self, forall_const, implies_true, if_true, if_false, reduceIte, List.cons.injEq, reduceCtorEq, Nat.reduceEqDiff, List.length_nil, List.length_cons, Nat.reduceAdd, Nat.reduceLT, ↓us_leqLiked, r_leqLiked]
  refine m_al ?_
  rintro b2 w2 hb2 hblk2 hx2 hs2
  have h1 := hblk1.ext hx2
  simp only [↓vsd, vsn, gW, qd, qv, ev, pick, argE, List.map_cons, List.map_nil, Option.map_some, Option.map_none, zipE, List.cons_append, List.nil_append, ne_eq, eq_self, forall_const, implies_true, if_true, if_false, reduceIte, List.cons.injEq, reduceCtorEq, Nat.reduceEqDiff, List.length_nil, List.length_cons, Nat.reduceAdd, Nat.reduceLT, ↓us_leqLiked, r_leqLiked, h1.facts, hblk2.facts, fKg]
  have hx := hx1.trans hx2
  have e : (x = y) = (x.pat = y.pat ∧ x.wt = y.wt) := by cases x; cases y; simp
  simp only [e]
  exact ⟨fun h => ⟨hx, by simp [h]⟩, fun h => ⟨fun h' => ⟨hx, by simp [h']⟩, fun h' => ⟨hx, by simp [h, h']⟩⟩⟩
theorem leqLikedS_ok (v1 v2 : Value) (l1 l2 : List LK) (w : World) (h1 : Sq fK 2 w v1 l1) (h2 : Sq fK 2 w v2 l2) (hl : l1.length ≤ 1048576) : Fn 42 [v1, v2] w (fun v _ => v = .bool (decide (l1 = l2))) := by
  (refine callsV_of mix Try.func42 c_leqLikedS ?_; simp only [↓vsd, vsn, gW, qd, qv, ev, pick, argE, List.map_cons, List.map_nil, Option.map_some, Option.map_none, zipE, List.cons_append, List.nil_append, ne_eq, eq_self, forall_const, implies_true, if_true, if_false, reduceIte, List.cons.injEq, reduceCtorEq, Nat.reduceEqDiff, List.length_nil, List.length_cons, Nat.reduceAdd, Nat.reduceLT, ↓us_leqLikedS, r_leqLikedS])
  simp only [↓vsd, vsn, gW, qd, qv, ev, pick, argE, List.map_cons, List.map_nil, Option.map_some, Option.map_none, zipE, List.cons_append, List.nil_append, ne_eq, eq_self, forall_const, implies_true, if_true, if_false, reduceIte, List.cons.injEq, reduceCtorEq, Nat.reduceEqDiff, List.length_nil, List.length_cons, Nat.reduceAdd, Nat.reduceLT, ↓us_leqLikedS, r_leqLikedS, h1.facts, h2.facts]
  refine ⟨fun hne => ⟨Ext.refl _, ?_⟩, fun he => ?_⟩
  · have : ¬ l1 = l2 := fun e => hne (by rw [e])
    simp [this]
  refine m_upto l1.length (fun k vs w' => vs = [.int .i64 k] ∧ l1.take k = l2.take k ∧ Ext w w') ⟨rfl, rfl, Ext.refl _⟩ ?_
  rintro k vs w3 hk ⟨rfl, heq, hx⟩
  have g1 := h1.ext hx
  have g2 := h2.ext hx
  by_cases hlt : k < l1.length
  · have hlt2 : k < l2.length := by omega
    simp only [↓vsd, vsn, gW, qd, qv, ev, pick, argE, List.map_cons, List.map_nil, Option.map_some, Option.map_none, zipE, List.cons_append, List.nil_append, ne_eq, eq_self, forall_const, implies_true, if_true, if_false, reduceIte, List.cons.injEq, reduceCtorEq, Nat.reduceEqDiff, List.length_nil, List.length_cons, Nat.reduceAdd, Nat.reduceLT, ↓us_leqLikedS, r_leqLikedS, g1.facts, g2.facts, g1.ata ⟨[], 0⟩ hlt, g2.ata ⟨[], 0⟩ hlt2]
    refine ⟨fun _ => ⟨by omega, by omega, m_call (leqLiked_ok _ _ _) ?_⟩, fun h => by omega⟩
    rintro _ w4 hx4 rfl
    simp only [↓vsd, vsn, gW, qd, qv, ev, pick, argE, List.map_cons, List.map_nil, Option.map_some, Option.map_none, zipE, List.cons_append, List.nil_append, ne_eq, eq_self, forall_const, implies_true, if_true, if_false, reduceIte, List.cons.injEq, reduceCtorEq, Nat.reduceEqDiff, List.length_nil, List.length_cons, Nat.reduceAdd, Nat.reduceLT, ↓us_leqLikedS, r_leqLikedS]
    exact ⟨fun hne => ⟨hx.trans (ud hx4), by simp [ne_at k hne]⟩, fun he2 => ⟨inR_i64 (by omega), UpTo.next hlt ⟨rfl, eq_take heq hlt hlt2 he2, hx.trans (ud hx4)⟩⟩⟩
  · obtain rfl : k = l1.length := by omega
    simp only [↓vsd, vsn, gW, qd, qv, ev, pick, argE, List.map_cons, List.map_nil, Option.map_some, Option.map_none, zipE, List.cons_append, List.nil_append, ne_eq, eq_self, forall_const, implies_true, if_true, if_false, reduceIte, List.cons.injEq, reduceCtorEq, Nat.reduceEqDiff, List.length_nil, List.length_cons, Nat.reduceAdd, Nat.reduceLT, ↓us_leqLikedS, r_leqLikedS, g1.facts]
    exact ⟨fun h => by omega, fun _ => ⟨hx, by simp [eq_len heq (by omega)]⟩⟩
def GoodK (x : LK) : Prop := IsPat x.pat ∧ -100 ≤ x.wt ∧ x.wt ≤ 100
instance (x : LK) : Decidable (GoodK x) := by unfold GoodK; infer_instance
def GoodKs (l : List LK) : Prop := (∀ x ∈ l, GoodK x) ∧ l.length ≤ 8
instance (l : List LK) : Decidable (GoodKs l) := by unfold GoodKs; infer_instance
theorem sl16Liked_ok (v : Value) (l : List LK) (hs : ∀ x ∈ l, x.pat.length ≤ 1048576) (hl : l.length ≤ 1048576) (w : World) (h : Sq fK 2 w v l) : Fn 111 [v] w (fun v _ => v = .bool (decide (GoodKs l))) := by
  (refine callsV_of mix Try.func111 c_sl16Liked ?_; simp only [↓vsd, vsn, gW, qd, qv, ev, pick, argE, List.map_cons, List.map_nil, Option.map_some, Option.map_none, zipE, List.cons_append, List.nil_append, ne_eq, eq_self, forall_const, implies_true, if_true, if_false, reduceIte, List.cons.injEq, reduceCtorEq, Nat.reduceEqDiff, List.length_nil, List.length_cons, Nat.reduceAdd, Nat.reduceLT, ↓us_sl16Liked, r_sl16Liked])
  simp only [↓vsd, vsn, gW, qd, qv, ev, pick, argE, List.map_cons, List.map_nil, Option.map_some, Option.map_none, zipE, List.cons_append, List.nil_append, ne_eq, eq_self, forall_const, implies_true, if_true, if_false, reduceIte, List.cons.injEq, reduceCtorEq, Nat.reduceEqDiff, List.length_nil, List.length_cons, Nat.reduceAdd, Nat.reduceLT, ↓us_sl16Liked, r_sl16Liked, h.facts]
  refine m_upto l.length (fun k vs w' => vs = [.int .i64 k] ∧ (∀ x ∈ l.take k, GoodK x) ∧ Ext w w') ⟨rfl, by simp, Ext.refl _⟩ ?_
  rintro k vs w1 hk ⟨rfl, hall, hx⟩
  have hq := h.ext hx
  by_cases hlt : k < l.length
  · have hmem : l.getD k ⟨[], 0⟩ ∈ l := by rw [List.getD_eq_getElem?_getD, List.getElem?_eq_getElem hlt]; exact List.getElem_mem hlt
    have hltI : (k : Int) < l.length := by omega
    have hltJ : ¬ (l.length : Int) ≤ k := by omega
    simp only [↓vsd, vsn, gW, qd, qv, ev, pick, argE, List.map_cons, List.map_nil, Option.map_some, Option.map_none, zipE, List.cons_append, List.nil_append, ne_eq, eq_self, forall_const, implies_true, if_true, if_false, reduceIte, List.cons.injEq, reduceCtorEq, Nat.reduceEqDiff, List.length_nil, List.length_cons, Nat.reduceAdd, Nat.reduceLT, ↓us_sl16Liked, r_sl16Liked, hq.facts, hq.ata ⟨[], 0⟩ hlt, hltI, hltJ]
    refine ⟨by omega, m_al ?_⟩
    rintro b w2 hb hblk hx2 hs2
    simp only [↓vsd, vsn, gW, qd, qv, ev, pick, argE, List.map_cons, List.map_nil, Option.map_some, Option.map_none, zipE, List.cons_append, List.nil_append, ne_eq, eq_self, forall_const, implies_true, if_true, if_false, reduceIte, List.cons.injEq, reduceCtorEq, Nat.reduceEqDiff, List.length_nil, List.length_cons, Nat.reduceAdd, Nat.reduceLT, ↓us_sl16Liked, r_sl16Liked]
    refine m_st hblk rfl (Nat.le_refl 2) (fK_one _) ?_
    rintro w3 hblk3 hu3
    have h3 : Blk w3 b (fK (l.getD k ⟨[], 0⟩)) 99 := hblk3
    have hx3 : Ext w w3 := hu3.below (hx.trans hx2) (by have := hx.size; omega)
    simp only [↓vsd, vsn, gW, qd, qv, ev, pick, argE, List.map_cons, List.map_nil, Option.map_some, Option.map_none, zipE, List.cons_append, List.nil_append, ne_eq, eq_self, forall_const, implies_true, if_true, if_false, reduceIte, List.cons.injEq, reduceCtorEq, Nat.reduceEqDiff, List.length_nil, List.length_cons, Nat.reduceAdd, Nat.reduceLT, ↓us_sl16Liked, r_sl16Liked, h3.facts, fKg]
    refine m_call (sl16Good_ok _ (by have := hs _ hmem; omega) _) ?_
    rintro _ w4 hx4 rfl
    have h4 := h3.ext hx4
    simp only [↓vsd, vsn, gW, qd, qv, ev, pick, argE, List.map_cons, List.map_nil, Option.map_some, Option.map_none, zipE, List.cons_append, List.nil_append, ne_eq, eq_self, forall_const, implies_true, if_true, if_false, reduceIte, List.cons.injEq, reduceCtorEq, Nat.reduceEqDiff, List.length_nil, List.length_cons, Nat.reduceAdd, Nat.reduceLT, ↓us_sl16Liked, r_sl16Liked, h4.facts, fKg]
    refine ⟨fun hp => m_call (sl1In_ok _ _ _ _) ?_, fun hp => ⟨hx3.trans hx4, ?_⟩⟩
    · rintro _ w5 hx5 rfl
      simp only [↓vsd, vsn, gW, qd, qv, ev, pick, argE, List.map_cons, List.map_nil, Option.map_some, Option.map_none, zipE, List.cons_append, List.nil_append, ne_eq, eq_self, forall_const, implies_true, if_true, if_false, reduceIte, List.cons.injEq, reduceCtorEq, Nat.reduceEqDiff, List.length_nil, List.length_cons, Nat.reduceAdd, Nat.reduceLT, ↓us_sl16Liked, r_sl16Liked]
      refine ⟨fun hb => ⟨(hx3.trans hx4).trans hx5, ?_⟩, fun hg => ⟨inR_i64 (by omega), UpTo.next hlt ⟨rfl, fun x hx' => ?_, (hx3.trans hx4).trans hx5⟩⟩⟩
      · have : ¬ GoodKs l := fun hh => by
          obtain ⟨h1, h2, h3⟩ := hh.1 _ hmem
          rcases hb with h | h | h
          · exact h h1
          · omega
          · omega
        simp [this]
      · rw [List.take_add_one, List.getElem?_eq_getElem hlt] at hx'
        rcases List.mem_append.1 hx' with h | h
        · exact hall x h
        · rw [List.getD_eq_getElem?_getD, List.getElem?_eq_getElem hlt] at *
          simp only [Option.toList_some, List.mem_singleton, Option.getD_some] at *
          subst h
          exact ⟨hg.1, hg.2⟩
    · have : ¬ GoodKs l := fun hh => hp (hh.1 _ hmem).1
      simp [this]
  · obtain rfl : k = l.length := by omega
    have hltI : ¬ (l.length : Int) < l.length := by omega
    simp only [↓vsd, vsn, gW, qd, qv, ev, pick, argE, List.map_cons, List.map_nil, Option.map_some, Option.map_none, zipE, List.cons_append, List.nil_append, ne_eq, eq_self, forall_const, implies_true, if_true, if_false, reduceIte, List.cons.injEq, reduceCtorEq, Nat.reduceEqDiff, List.length_nil, List.length_cons, Nat.reduceAdd, Nat.reduceLT, ↓us_sl16Liked, r_sl16Liked, hq.facts, hltI]
    refine ⟨hx, ?_⟩
    rw [List.take_length] at hall
    congr 1
    exact propext ⟨fun h => ⟨hall, by omega⟩, fun h => by have := h.2; omega⟩
theorem iGoodLiked_ok (v : Value) (l : List LK) (hs : ∀ x ∈ l, x.pat.length ≤ 1048576) (hl : l.length ≤ 1048576) (w : World) (h : Sq fK 2 w v l) : Fn 114 [v] w (fun v _ => v = .bool (decide (GoodKs l))) := by
  (refine callsV_of mix Try.func114 c_iGoodLiked ?_; simp only [↓vsd, vsn, gW, qd, qv, ev, pick, argE, List.map_cons, List.map_nil, Option.map_some, Option.map_none, zipE, List.cons_append, List.nil_append, ne_eq, eq_self, forall_const, implies_true, if_true, if_false, reduceIte, List.cons.injEq, reduceCtorEq, Nat.reduceEqDiff, List.length_nil, List.length_cons, Nat.reduceAdd, Nat.reduceLT, ↓us_iGoodLiked, r_iGoodLiked])
  simp only [↓vsd, vsn, gW, qd, qv, ev, pick, argE, List.map_cons, List.map_nil, Option.map_some, Option.map_none, zipE, List.cons_append, List.nil_append, ne_eq, eq_self, forall_const, implies_true, if_true, if_false, reduceIte, List.cons.injEq, reduceCtorEq, Nat.reduceEqDiff, List.length_nil, List.length_cons, Nat.reduceAdd, Nat.reduceLT, ↓us_iGoodLiked, r_iGoodLiked, h.facts]
  refine m_upto l.length (fun k vs w' => vs = [.int .i64 k] ∧ (∀ x ∈ l.take k, GoodK x) ∧ Ext w w') ⟨rfl, by simp, Ext.refl _⟩ ?_
  rintro k vs w1 hk ⟨rfl, hall, hx⟩
  have hq := h.ext hx
  by_cases hlt : k < l.length
  · have hmem : l.getD k ⟨[], 0⟩ ∈ l := by rw [List.getD_eq_getElem?_getD, List.getElem?_eq_getElem hlt]; exact List.getElem_mem hlt
    have hltI : (k : Int) < l.length := by omega
    have hltJ : ¬ (l.length : Int) ≤ k := by omega
    simp only [↓vsd, vsn, gW, qd, qv, ev, pick, argE, List.map_cons, List.map_nil, Option.map_some, Option.map_none, zipE, List.cons_append, List.nil_append, ne_eq, eq_self, forall_const, implies_true, if_true, if_false, reduceIte, List.cons.injEq, reduceCtorEq, Nat.reduceEqDiff, List.length_nil, List.length_cons, Nat.reduceAdd, Nat.reduceLT, ↓us_iGoodLiked, r_iGoodLiked, hq.facts, hq.ata ⟨[], 0⟩ hlt, hltI, hltJ]
    refine ⟨by omega, m_al ?_⟩
    rintro b w2 hb hblk hx2 hs2
    simp only [↓vsd, vsn, gW, qd, qv, ev, pick, argE, List.map_cons, List.map_nil, Option.map_some, Option.map_none, zipE, List.cons_append, List.nil_append, ne_eq, eq_self, forall_const, implies_true, if_true, if_false, reduceIte, List.cons.injEq, reduceCtorEq, Nat.reduceEqDiff, List.length_nil, List.length_cons, Nat.reduceAdd, Nat.reduceLT, ↓us_iGoodLiked, r_iGoodLiked]
    refine m_st hblk rfl (Nat.le_refl 2) (fK_one _) ?_
    rintro w3 hblk3 hu3
    have h3 : Blk w3 b (fK (l.getD k ⟨[], 0⟩)) 99 := hblk3
    have hx3 : Ext w w3 := hu3.below (hx.trans hx2) (by have := hx.size; omega)
    simp only [↓vsd, vsn, gW, qd, qv, ev, pick, argE, List.map_cons, List.map_nil, Option.map_some, Option.map_none, zipE, List.cons_append, List.nil_append, ne_eq, eq_self, forall_const, implies_true, if_true, if_false, reduceIte, List.cons.injEq, reduceCtorEq, Nat.reduceEqDiff, List.length_nil, List.length_cons, Nat.reduceAdd, Nat.reduceLT, ↓us_iGoodLiked, r_iGoodLiked, h3.facts, fKg]
    refine m_call (iGoodPattern_ok _ (by have := hs _ hmem; omega) _) ?_
    rintro _ w4 hx4 rfl
    have h4 := h3.ext hx4
    simp only [↓vsd, vsn, gW, qd, qv, ev, pick, argE, List.map_cons, List.map_nil, Option.map_some, Option.map_none, zipE, List.cons_append, List.nil_append, ne_eq, eq_self, forall_const, implies_true, if_true, if_false, reduceIte, List.cons.injEq, reduceCtorEq, Nat.reduceEqDiff, List.length_nil, List.length_cons, Nat.reduceAdd, Nat.reduceLT, ↓us_iGoodLiked, r_iGoodLiked, h4.facts, fKg]
    refine ⟨fun hp => m_call (iwithin_ok _ _ _ _) ?_, fun hp => ⟨hx3.trans hx4, ?_⟩⟩
    · rintro _ w5 hx5 rfl
      simp only [↓vsd, vsn, gW, qd, qv, ev, pick, argE, List.map_cons, List.map_nil, Option.map_some, Option.map_none, zipE, List.cons_append, List.nil_append, ne_eq, eq_self, forall_const, implies_true, if_true, if_false, reduceIte, List.cons.injEq, reduceCtorEq, Nat.reduceEqDiff, List.length_nil, List.length_cons, Nat.reduceAdd, Nat.reduceLT, ↓us_iGoodLiked, r_iGoodLiked]
      refine ⟨fun hb => ⟨(hx3.trans hx4).trans hx5, ?_⟩, fun hg => ⟨inR_i64 (by omega), UpTo.next hlt ⟨rfl, fun x hx' => ?_, (hx3.trans hx4).trans hx5⟩⟩⟩
      · have : ¬ GoodKs l := fun hh => by
          obtain ⟨h1, h2, h3⟩ := hh.1 _ hmem
          rcases hb with h | h | h
          · exact h h1
          · omega
          · omega
        simp [this]
      · rw [List.take_add_one, List.getElem?_eq_getElem hlt] at hx'
        rcases List.mem_append.1 hx' with h | h
        · exact hall x h
        · rw [List.getD_eq_getElem?_getD, List.getElem?_eq_getElem hlt] at *
          simp only [Option.toList_some, List.mem_singleton, Option.getD_some] at *
          subst h
          exact ⟨hg.1, hg.2⟩
    · have : ¬ GoodKs l := fun hh => hp (hh.1 _ hmem).1
      simp [this]
  · obtain rfl : k = l.length := by omega
    have hltI : ¬ (l.length : Int) < l.length := by omega
    simp only [↓vsd, vsn, gW, qd, qv, ev, pick, argE, List.map_cons, List.map_nil, Option.map_some, Option.map_none, zipE, List.cons_append, List.nil_append, ne_eq, eq_self, forall_const, implies_true, if_true, if_false, reduceIte, List.cons.injEq, reduceCtorEq, Nat.reduceEqDiff, List.length_nil, List.length_cons, Nat.reduceAdd, Nat.reduceLT, ↓us_iGoodLiked, r_iGoodLiked, hq.facts, hltI]
    refine ⟨hx, ?_⟩
    rw [List.take_length] at hall
    congr 1
    exact propext ⟨fun h => ⟨hall, by omega⟩, fun h => by have := h.2; omega⟩
end Go.Proofs.Ytffhjhjmbkcibaa
