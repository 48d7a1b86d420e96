/-
  Reversed lists, palindromes, turned methods.
  Conditions: none.
-/
import Derived.Test.YtjcnmobdlkmaeaaA25
set_option linter.unusedSimpArgs false
set_option linter.unusedVariables false
set_option linter.defProp false
namespace Go.Proofs.Ytjcnmobdlkmaeaa
open Go Go.RowKit
def t_xslices_Clone_string_string_1 : X := (.cond (.t 4) (.seq (.reg [2] (.c (.q 2 [] (.mv (.c (.slice none 0 0)))) .nil)) .ret) .skip)
theorem u_xslices_Clone_string_string_1 (P : Program) (k : KT) (e : Env) (w : World) : vcK P t_xslices_Clone_string_string_1 k e w = vcK P (.cond (.t 4) (.seq (.reg [2] (.c (.q 2 [] (.mv (.c (.slice none 0 0)))) .nil)) .ret) .skip) k e w := rfl
def t_xslices_Clone_string_string_2 : X := (.seq (.reg [2] (.c (.e (some 5) [] (.bsl 9 1 [])) (.c (.q 6 [] (.mv (.t 0))) (.c (.e (some 7) [] (.app 42 9 1 16 [(S [])] 42 (.t 5) (.t 6))) (.c (.q 2 [] (.mv (.t 7))) .nil))))) .ret)
theorem u_xslices_Clone_string_string_2 (P : Program) (k : KT) (e : Env) (w : World) : vcK P t_xslices_Clone_string_string_2 k e w = vcK P (.seq (.reg [2] (.c (.e (some 5) [] (.bsl 9 1 [])) (.c (.q 6 [] (.mv (.t 0))) (.c (.e (some 7) [] (.app 42 9 1 16 [(S [])] 42 (.t 5) (.t 6))) (.c (.q 2 [] (.mv (.t 7))) .nil))))) .ret) k e w := rfl
def t_xslices_Clone_string_string_3 : X := (.seq (.seq (.reg [0, 4] (.c (.q 3 [] (.mv (.t 0))) (.c (.q 4 [] (.snil false (.t 3) (.c (.slice none 0 0)))) .nil))) t_xslices_Clone_string_string_1) t_xslices_Clone_string_string_2)
theorem u_xslices_Clone_string_string_3 (P : Program) (k : KT) (e : Env) (w : World) : vcK P t_xslices_Clone_string_string_3 k e w = vcK P (.seq (.seq (.reg [0, 4] (.c (.q 3 [] (.mv (.t 0))) (.c (.q 4 [] (.snil false (.t 3) (.c (.slice none 0 0)))) .nil))) t_xslices_Clone_string_string_1) t_xslices_Clone_string_string_2) k e w := rfl
def x_xslices_Clone_string_string : X := (.seq (.reg [0] (.c (.q 2 [] (.mv (.c (.slice none 0 0)))) .nil)) t_xslices_Clone_string_string_3)
theorem u_xslices_Clone_string_string (P : Program) (k : KT) (e : Env) (w : World) : vcK P x_xslices_Clone_string_string k e w = vcK P (.seq (.reg [0] (.c (.q 2 [] (.mv (.c (.slice none 0 0)))) .nil)) t_xslices_Clone_string_string_3) k e w := rfl
def r_xslices_Clone_string_string : List XO := [(.mv (.t 2))]
theorem c_xslices_Clone_string_string : convF Try.prog [145, 147, 148, 149, 158, 205, 206, 232, 234, 247, 248, 256, 261, 283, 284, 299, 300, 307] Try.f211 [([0], []), ([0, 4], []), ([2], []), ([2], [])] = some (x_xslices_Clone_string_string, r_xslices_Clone_string_string) := by kernel_rfl
def us_xslices_Clone_string_string := And.intro @u_xslices_Clone_string_string (And.intro @u_xslices_Clone_string_string_1 (And.intro @u_xslices_Clone_string_string_2 @u_xslices_Clone_string_string_3))
def t_xslices_Reverse_string_string_1 : X := (.cond (.t 9) .skip (.exit 0))
theorem u_xslices_Reverse_string_string_1 (P : Program) (k : KT) (e : Env) (w : World) : vcK P t_xslices_Reverse_string_string_1 k e w = vcK P (.cond (.t 9) .skip (.exit 0)) k e w := rfl
def t_xslices_Reverse_string_string_2 : X := (.reg [0, 2, 3] (.c (.q 10 [] (.mv (.t 2))) (.c (.q 11 [] (.bin .add (.t 10) (.c (.int .i64 1)))) (.c (.q 12 [] (.mv (.t 3))) (.c (.q 13 [] (.bin .sub (.t 12) (.c (.int .i64 1)))) (.c (.q 2 [] (.mv (.t 11))) (.c (.q 3 [] (.mv (.t 13))) .nil)))))))
theorem u_xslices_Reverse_string_string_2 (P : Program) (k : KT) (e : Env) (w : World) : vcK P t_xslices_Reverse_string_string_2 k e w = vcK P (.reg [0, 2, 3] (.c (.q 10 [] (.mv (.t 2))) (.c (.q 11 [] (.bin .add (.t 10) (.c (.int .i64 1)))) (.c (.q 12 [] (.mv (.t 3))) (.c (.q 13 [] (.bin .sub (.t 12) (.c (.int .i64 1)))) (.c (.q 2 [] (.mv (.t 11))) (.c (.q 3 [] (.mv (.t 13))) .nil))))))) k e w := rfl
def t_xslices_Reverse_string_string_3 : X := (.seq (.blk 1 (.drw [0, 2, 3] (.c (.q 14 [] (.mv (.t 0))) (.c (.q 15 [] (.mv (.t 2))) (.c (.q 16 [] (.mv (.t 0))) (.c (.q 17 [] (.mv (.t 3))) (.c (.q 18 [] (.mv (.t 0))) (.c (.q 19 [] (.mv (.t 3))) (.c (.q 20 [] (.ia 1 (.t 18) (.t 19))) (.c (.q 21 [] (.ld (.t 20))) (.c (.q 22 [] (.mv (.t 0))) (.c (.q 23 [] (.mv (.t 2))) (.c (.q 24 [] (.ia 1 (.t 22) (.t 23))) (.c (.q 25 [] (.ld (.t 24))) (.c (.q 26 [] (.ia 1 (.t 14) (.t 15))) (.c (.e none [] (.st 1 (.t 26) (.t 21))) (.c (.q 27 [] (.ia 1 (.t 16) (.t 17))) (.c (.e none [] (.st 1 (.t 27) (.t 25))) .nil)))))))))))))))))) t_xslices_Reverse_string_string_2)
theorem u_xslices_Reverse_string_string_3 (P : Program) (k : KT) (e : Env) (w : World) : vcK P t_xslices_Reverse_string_string_3 k e w = vcK P (.seq (.blk 1 (.drw [0, 2, 3] (.c (.q 14 [] (.mv (.t 0))) (.c (.q 15 [] (.mv (.t 2))) (.c (.q 16 [] (.mv (.t 0))) (.c (.q 17 [] (.mv (.t 3))) (.c (.q 18 [] (.mv (.t 0))) (.c (.q 19 [] (.mv (.t 3))) (.c (.q 20 [] (.ia 1 (.t 18) (.t 19))) (.c (.q 21 [] (.ld (.t 20))) (.c (.q 22 [] (.mv (.t 0))) (.c (.q 23 [] (.mv (.t 2))) (.c (.q 24 [] (.ia 1 (.t 22) (.t 23))) (.c (.q 25 [] (.ld (.t 24))) (.c (.q 26 [] (.ia 1 (.t 14) (.t 15))) (.c (.e none [] (.st 1 (.t 26) (.t 21))) (.c (.q 27 [] (.ia 1 (.t 16) (.t 17))) (.c (.e none [] (.st 1 (.t 27) (.t 25))) .nil)))))))))))))))))) t_xslices_Reverse_string_string_2) k e w := rfl
def t_xslices_Reverse_string_string_4 : X := (.seq (.seq (.reg [0, 2, 3, 9] (.c (.q 7 [] (.mv (.t 2))) (.c (.q 8 [] (.mv (.t 3))) (.c (.q 9 [] (.bin .lss (.t 7) (.t 8))) .nil)))) t_xslices_Reverse_string_string_1) t_xslices_Reverse_string_string_3)
theorem u_xslices_Reverse_string_string_4 (P : Program) (k : KT) (e : Env) (w : World) : vcK P t_xslices_Reverse_string_string_4 k e w = vcK P (.seq (.seq (.reg [0, 2, 3, 9] (.c (.q 7 [] (.mv (.t 2))) (.c (.q 8 [] (.mv (.t 3))) (.c (.q 9 [] (.bin .lss (.t 7) (.t 8))) .nil)))) t_xslices_Reverse_string_string_1) t_xslices_Reverse_string_string_3) k e w := rfl
def t_xslices_Reverse_string_string_5 : X := (.blk 0 (.loop [2, 3] [0] t_xslices_Reverse_string_string_4))
theorem u_xslices_Reverse_string_string_5 (P : Program) (k : KT) (e : Env) (w : World) : vcK P t_xslices_Reverse_string_string_5 k e w = vcK P (.blk 0 (.loop [2, 3] [0] t_xslices_Reverse_string_string_4)) k e w := rfl
def x_xslices_Reverse_string_string : X := (.seq (.reg [0, 2, 3] (.c (.q 4 [] (.mv (.t 0))) (.c (.q 5 [] (.lens (.t 4))) (.c (.q 6 [] (.bin .sub (.t 5) (.c (.int .i64 1)))) (.c (.q 2 [] (.mv (.c (.int .i64 0)))) (.c (.q 3 [] (.mv (.t 6))) .nil)))))) t_xslices_Reverse_string_string_5)
theorem u_xslices_Reverse_string_string (P : Program) (k : KT) (e : Env) (w : World) : vcK P x_xslices_Reverse_string_string k e w = vcK P (.seq (.reg [0, 2, 3] (.c (.q 4 [] (.mv (.t 0))) (.c (.q 5 [] (.lens (.t 4))) (.c (.q 6 [] (.bin .sub (.t 5) (.c (.int .i64 1)))) (.c (.q 2 [] (.mv (.c (.int .i64 0)))) (.c (.q 3 [] (.mv (.t 6))) .nil)))))) t_xslices_Reverse_string_string_5) k e w := rfl
def r_xslices_Reverse_string_string : List XO := []
theorem c_xslices_Reverse_string_string : convF Try.prog [145, 147, 148, 149, 158, 205, 206, 232, 234, 247, 248, 256, 261, 283, 284, 299, 300, 307] Try.f282 [([0, 2, 3], []), ([2, 3], [0]), ([0, 2, 3, 9], []), ([0, 2, 3], []), ([0, 2, 3], [])] = some (x_xslices_Reverse_string_string, r_xslices_Reverse_string_string) := by kernel_rfl
def us_xslices_Reverse_string_string := And.intro @u_xslices_Reverse_string_string (And.intro @u_xslices_Reverse_string_string_1 (And.intro @u_xslices_Reverse_string_string_2 (And.intro @u_xslices_Reverse_string_string_3 (And.intro @u_xslices_Reverse_string_string_4 @u_xslices_Reverse_string_string_5))))
def t_ireversed_1 : X := (.seq (.reg [2] (.c (.q 8 [] (.mv (.t 3))) (.c (.q 2 [] (.mv (.t 8))) .nil))) .ret)
theorem u_ireversed_1 (P : Program) (k : KT) (e : Env) (w : World) : vcK P t_ireversed_1 k e w = vcK P (.seq (.reg [2] (.c (.q 8 [] (.mv (.t 3))) (.c (.q 2 [] (.mv (.t 8))) .nil))) .ret) k e w := rfl
def t_ireversed_2 : X := (.seq (.reg [3] (.c (.q 6 [] (.mv (.t 3))) (.c (.e (some 7) [] (.call false 282 [(.t 6)])) .nil))) t_ireversed_1)
theorem u_ireversed_2 (P : Program) (k : KT) (e : Env) (w : World) : vcK P t_ireversed_2 k e w = vcK P (.seq (.reg [3] (.c (.q 6 [] (.mv (.t 3))) (.c (.e (some 7) [] (.call false 282 [(.t 6)])) .nil))) t_ireversed_1) k e w := rfl
def t_ireversed_3 : X := (.seq (.reg [3] (.c (.q 4 [] (.mv (.t 0))) (.c (.e (some 5) [] (.call false 211 [(.t 4)])) (.c (.q 3 [] (.mv (.t 5))) .nil)))) t_ireversed_2)
theorem u_ireversed_3 (P : Program) (k : KT) (e : Env) (w : World) : vcK P t_ireversed_3 k e w = vcK P (.seq (.reg [3] (.c (.q 4 [] (.mv (.t 0))) (.c (.e (some 5) [] (.call false 211 [(.t 4)])) (.c (.q 3 [] (.mv (.t 5))) .nil)))) t_ireversed_2) k e w := rfl
def x_ireversed : X := (.seq (.reg [0] (.c (.q 2 [] (.mv (.c (.slice none 0 0)))) .nil)) t_ireversed_3)
theorem u_ireversed (P : Program) (k : KT) (e : Env) (w : World) : vcK P x_ireversed k e w = vcK P (.seq (.reg [0] (.c (.q 2 [] (.mv (.c (.slice none 0 0)))) .nil)) t_ireversed_3) k e w := rfl
def r_ireversed : List XO := [(.mv (.t 2))]
theorem c_ireversed : convF Try.prog [145, 147, 148, 149, 158, 205, 206, 232, 234, 247, 248, 256, 261, 283, 284, 299, 300, 307] Try.f198 [([0], []), ([3], []), ([3], []), ([2], [])] = some (x_ireversed, r_ireversed) := by kernel_rfl
def us_ireversed := And.intro @u_ireversed (And.intro @u_ireversed_1 (And.intro @u_ireversed_2 @u_ireversed_3))
def t_isameBothWays_1 : X := (.cond (.t 21) (.seq (.reg [2] (.c (.q 2 [] (.mv (.c (.bool false)))) .nil)) .ret) .skip)
theorem u_isameBothWays_1 (P : Program) (k : KT) (e : Env) (w : World) : vcK P t_isameBothWays_1 k e w = vcK P (.cond (.t 21) (.seq (.reg [2] (.c (.q 2 [] (.mv (.c (.bool false)))) .nil)) .ret) .skip) k e w := rfl
def t_isameBothWays_2 : X := (.seq (.drw [0, 5, 6, 21] (.c (.q 9 [] (.mv (.t 0))) (.c (.q 10 [] (.mv (.t 3))) (.c (.q 11 [] (.ia 1 (.t 9) (.t 10))) (.c (.q 12 [] (.ld (.t 11))) (.c (.q 13 [] (.mv (.t 0))) (.c (.q 14 [] (.mv (.t 0))) (.c (.q 15 [] (.lens (.t 14))) (.c (.q 16 [] (.bin .sub (.t 15) (.c (.int .i64 1)))) (.c (.q 17 [] (.mv (.t 3))) (.c (.q 18 [] (.bin .sub (.t 16) (.t 17))) (.c (.q 19 [] (.ia 1 (.t 13) (.t 18))) (.c (.q 20 [] (.ld (.t 19))) (.c (.q 21 [] (.bin .neq (.t 12) (.t 20))) .nil)))))))))))))) t_isameBothWays_1)
theorem u_isameBothWays_2 (P : Program) (k : KT) (e : Env) (w : World) : vcK P t_isameBothWays_2 k e w = vcK P (.seq (.drw [0, 5, 6, 21] (.c (.q 9 [] (.mv (.t 0))) (.c (.q 10 [] (.mv (.t 3))) (.c (.q 11 [] (.ia 1 (.t 9) (.t 10))) (.c (.q 12 [] (.ld (.t 11))) (.c (.q 13 [] (.mv (.t 0))) (.c (.q 14 [] (.mv (.t 0))) (.c (.q 15 [] (.lens (.t 14))) (.c (.q 16 [] (.bin .sub (.t 15) (.c (.int .i64 1)))) (.c (.q 17 [] (.mv (.t 3))) (.c (.q 18 [] (.bin .sub (.t 16) (.t 17))) (.c (.q 19 [] (.ia 1 (.t 13) (.t 18))) (.c (.q 20 [] (.ld (.t 19))) (.c (.q 21 [] (.bin .neq (.t 12) (.t 20))) .nil)))))))))))))) t_isameBothWays_1) k e w := rfl
def t_isameBothWays_3 : X := (.reg [0, 5, 6] (.c (.q 22 [] (.bin .add (.t 6) (.c (.int .i64 1)))) (.c (.q 6 [] (.mv (.t 22))) .nil)))
theorem u_isameBothWays_3 (P : Program) (k : KT) (e : Env) (w : World) : vcK P t_isameBothWays_3 k e w = vcK P (.reg [0, 5, 6] (.c (.q 22 [] (.bin .add (.t 6) (.c (.int .i64 1)))) (.c (.q 6 [] (.mv (.t 22))) .nil))) k e w := rfl
def t_isameBothWays_4 : X := (.seq (.blk 1 (.seq (.reg [0, 3, 5, 6] (.c (.q 8 [] (.mv (.t 6))) (.c (.q 3 [] (.mv (.t 8))) .nil))) t_isameBothWays_2)) t_isameBothWays_3)
theorem u_isameBothWays_4 (P : Program) (k : KT) (e : Env) (w : World) : vcK P t_isameBothWays_4 k e w = vcK P (.seq (.blk 1 (.seq (.reg [0, 3, 5, 6] (.c (.q 8 [] (.mv (.t 6))) (.c (.q 3 [] (.mv (.t 8))) .nil))) t_isameBothWays_2)) t_isameBothWays_3) k e w := rfl
def t_isameBothWays_5 : X := (.seq (.cond (.t 7) .skip (.exit 0)) t_isameBothWays_4)
theorem u_isameBothWays_5 (P : Program) (k : KT) (e : Env) (w : World) : vcK P t_isameBothWays_5 k e w = vcK P (.seq (.cond (.t 7) .skip (.exit 0)) t_isameBothWays_4) k e w := rfl
def t_isameBothWays_6 : X := (.seq (.reg [0, 5, 6, 7] (.c (.q 7 [] (.bin .lss (.t 6) (.t 5))) .nil)) t_isameBothWays_5)
theorem u_isameBothWays_6 (P : Program) (k : KT) (e : Env) (w : World) : vcK P t_isameBothWays_6 k e w = vcK P (.seq (.reg [0, 5, 6, 7] (.c (.q 7 [] (.bin .lss (.t 6) (.t 5))) .nil)) t_isameBothWays_5) k e w := rfl
def t_isameBothWays_7 : X := (.blk 0 (.loop [6] [0, 5] t_isameBothWays_6))
theorem u_isameBothWays_7 (P : Program) (k : KT) (e : Env) (w : World) : vcK P t_isameBothWays_7 k e w = vcK P (.blk 0 (.loop [6] [0, 5] t_isameBothWays_6)) k e w := rfl
def t_isameBothWays_8 : X := (.seq (.reg [2] (.c (.q 2 [] (.mv (.c (.bool true)))) .nil)) .ret)
theorem u_isameBothWays_8 (P : Program) (k : KT) (e : Env) (w : World) : vcK P t_isameBothWays_8 k e w = vcK P (.seq (.reg [2] (.c (.q 2 [] (.mv (.c (.bool true)))) .nil)) .ret) k e w := rfl
def t_isameBothWays_9 : X := (.seq (.seq (.reg [0, 5, 6] (.c (.q 4 [] (.mv (.t 0))) (.c (.q 5 [] (.lens (.t 4))) (.c (.q 6 [] (.mv (.c (.int .i64 0)))) .nil)))) t_isameBothWays_7) t_isameBothWays_8)
theorem u_isameBothWays_9 (P : Program) (k : KT) (e : Env) (w : World) : vcK P t_isameBothWays_9 k e w = vcK P (.seq (.seq (.reg [0, 5, 6] (.c (.q 4 [] (.mv (.t 0))) (.c (.q 5 [] (.lens (.t 4))) (.c (.q 6 [] (.mv (.c (.int .i64 0)))) .nil)))) t_isameBothWays_7) t_isameBothWays_8) k e w := rfl
def x_isameBothWays : X := (.seq (.reg [0] (.c (.q 2 [] (.mv (.c (.bool false)))) .nil)) t_isameBothWays_9)
theorem u_isameBothWays (P : Program) (k : KT) (e : Env) (w : World) : vcK P x_isameBothWays k e w = vcK P (.seq (.reg [0] (.c (.q 2 [] (.mv (.c (.bool false)))) .nil)) t_isameBothWays_9) k e w := rfl
def r_isameBothWays : List XO := [(.mv (.t 2))]
theorem c_isameBothWays : convF Try.prog [145, 147, 148, 149, 158, 205, 206, 232, 234, 247, 248, 256, 261, 283, 284, 299, 300, 307] Try.f281 [([0], []), ([0, 5, 6], []), ([6], [0, 5]), ([0, 5, 6, 7], []), ([0, 3, 5, 6], []), ([0, 5, 6, 21], []), ([2], []), ([0, 5, 6], []), ([2], [])] = some (x_isameBothWays, r_isameBothWays) := by kernel_rfl
def us_isameBothWays := And.intro @u_isameBothWays (And.intro @u_isameBothWays_1 (And.intro @u_isameBothWays_2 (And.intro @u_isameBothWays_3 (And.intro @u_isameBothWays_4 (And.intro @u_isameBothWays_5 (And.intro @u_isameBothWays_6 (And.intro @u_isameBothWays_7 (And.intro @u_isameBothWays_8 @u_isameBothWays_9))))))))
def t_ipalindrome_1 : X := (.seq (.reg [2] (.c (.q 3 [] (.fa 2 (.t 1))) (.c (.q 4 [] (.ld (.t 3))) (.c (.q 5 [] (.fa 2 (.t 1))) (.c (.q 6 [] (.ld (.t 5))) (.c (.q 7 [] (.lens (.t 6))) (.c (.q 8 [] (.bin .sub (.t 7) (.c (.int .i64 1)))) (.c (.q 9 [] (.ssl 1 (.t 4) none (some (.t 8)))) (.c (.e (some 10) [] (.call false 281 [(.t 9)])) (.c (.q 2 [] (.mv (.t 10))) .nil)))))))))) .ret)
theorem u_ipalindrome_1 (P : Program) (k : KT) (e : Env) (w : World) : vcK P t_ipalindrome_1 k e w = vcK P (.seq (.reg [2] (.c (.q 3 [] (.fa 2 (.t 1))) (.c (.q 4 [] (.ld (.t 3))) (.c (.q 5 [] (.fa 2 (.t 1))) (.c (.q 6 [] (.ld (.t 5))) (.c (.q 7 [] (.lens (.t 6))) (.c (.q 8 [] (.bin .sub (.t 7) (.c (.int .i64 1)))) (.c (.q 9 [] (.ssl 1 (.t 4) none (some (.t 8)))) (.c (.e (some 10) [] (.call false 281 [(.t 9)])) (.c (.q 2 [] (.mv (.t 10))) .nil)))))))))) .ret) k e w := rfl
def x_ipalindrome : X := (.seq (.reg [1] (.c (.e (some 1) [] (.box 58 (.t 0))) (.c (.q 2 [] (.mv (.c (.bool false)))) .nil))) t_ipalindrome_1)
theorem u_ipalindrome (P : Program) (k : KT) (e : Env) (w : World) : vcK P x_ipalindrome k e w = vcK P (.seq (.reg [1] (.c (.e (some 1) [] (.box 58 (.t 0))) (.c (.q 2 [] (.mv (.c (.bool false)))) .nil))) t_ipalindrome_1) k e w := rfl
def r_ipalindrome : List XO := [(.mv (.t 2))]
theorem c_ipalindrome : convF Try.prog [145, 147, 148, 149, 158, 205, 206, 232, 234, 247, 248, 256, 261, 283, 284, 299, 300, 307] Try.f196 [([1], []), ([2], [])] = some (x_ipalindrome, r_ipalindrome) := by kernel_rfl
def us_ipalindrome := And.intro @u_ipalindrome @u_ipalindrome_1
def t_iIsPalindrome_1 : X := (.cond (.t 6) (.seq (.reg [2, 3] (.c (.q 2 [] (.mv (.c (.bool false)))) (.c (.q 3 [] (.mv (.c (.bool false)))) .nil))) .ret) .skip)
theorem u_iIsPalindrome_1 (P : Program) (k : KT) (e : Env) (w : World) : vcK P t_iIsPalindrome_1 k e w = vcK P (.cond (.t 6) (.seq (.reg [2, 3] (.c (.q 2 [] (.mv (.c (.bool false)))) (.c (.q 3 [] (.mv (.c (.bool false)))) .nil))) .ret) .skip) k e w := rfl
def t_iIsPalindrome_2 : X := (.seq (.reg [2, 3] (.c (.q 7 [] (.lda 3 (.t 1))) (.c (.e (some 8) [] (.call false 196 [(.t 7)])) (.c (.q 2 [] (.mv (.t 8))) (.c (.q 3 [] (.mv (.c (.bool true)))) .nil))))) .ret)
theorem u_iIsPalindrome_2 (P : Program) (k : KT) (e : Env) (w : World) : vcK P t_iIsPalindrome_2 k e w = vcK P (.seq (.reg [2, 3] (.c (.q 7 [] (.lda 3 (.t 1))) (.c (.e (some 8) [] (.call false 196 [(.t 7)])) (.c (.q 2 [] (.mv (.t 8))) (.c (.q 3 [] (.mv (.c (.bool true)))) .nil))))) .ret) k e w := rfl
def t_iIsPalindrome_3 : X := (.seq (.seq (.reg [1, 6] (.c (.q 4 [] (.lda 3 (.t 1))) (.c (.e (some 5) [] (.call false 188 [(.t 4)])) (.c (.q 6 [] (.not (.t 5))) .nil)))) t_iIsPalindrome_1) t_iIsPalindrome_2)
theorem u_iIsPalindrome_3 (P : Program) (k : KT) (e : Env) (w : World) : vcK P t_iIsPalindrome_3 k e w = vcK P (.seq (.seq (.reg [1, 6] (.c (.q 4 [] (.lda 3 (.t 1))) (.c (.e (some 5) [] (.call false 188 [(.t 4)])) (.c (.q 6 [] (.not (.t 5))) .nil)))) t_iIsPalindrome_1) t_iIsPalindrome_2) k e w := rfl
def x_iIsPalindrome : X := (.seq (.reg [1] (.c (.e (some 1) [] (.box 58 (.t 0))) (.c (.q 2 [] (.mv (.c (.bool false)))) (.c (.q 3 [] (.mv (.c (.bool false)))) .nil)))) t_iIsPalindrome_3)
theorem u_iIsPalindrome (P : Program) (k : KT) (e : Env) (w : World) : vcK P x_iIsPalindrome k e w = vcK P (.seq (.reg [1] (.c (.e (some 1) [] (.box 58 (.t 0))) (.c (.q 2 [] (.mv (.c (.bool false)))) (.c (.q 3 [] (.mv (.c (.bool false)))) .nil)))) t_iIsPalindrome_3) k e w := rfl
def r_iIsPalindrome : List XO := [(.mv (.t 2)), (.mv (.t 3))]
theorem c_iIsPalindrome : convF Try.prog [145, 147, 148, 149, 158, 205, 206, 232, 234, 247, 248, 256, 261, 283, 284, 299, 300, 307] Try.f56 [([1], []), ([1, 6], []), ([2, 3], []), ([2, 3], [])] = some (x_iIsPalindrome, r_iIsPalindrome) := by kernel_rfl
def us_iIsPalindrome := And.intro @u_iIsPalindrome (And.intro @u_iIsPalindrome_1 (And.intro @u_iIsPalindrome_2 @u_iIsPalindrome_3))
def t_iTurnMethod_1 : X := (.cond (.t 6) (.seq (.reg [2, 3] (.c (.q 7 [] (.bld [(S []), (.int .i64 0), (.slice none 0 0)] [])) (.c (.e none [] (.st 3 (.t 2) (.t 7))) (.c (.q 3 [] (.mv (.c (.bool false)))) .nil)))) .ret) .skip)
theorem u_iTurnMethod_1 (P : Program) (k : KT) (e : Env) (w : World) : vcK P t_iTurnMethod_1 k e w = vcK P (.cond (.t 6) (.seq (.reg [2, 3] (.c (.q 7 [] (.bld [(S []), (.int .i64 0), (.slice none 0 0)] [])) (.c (.e none [] (.st 3 (.t 2) (.t 7))) (.c (.q 3 [] (.mv (.c (.bool false)))) .nil)))) .ret) .skip) k e w := rfl
def t_iTurnMethod_2 : X := (.seq (.drw [2, 3] (.c (.q 8 [] (.lda 3 (.t 1))) (.c (.q 9 [] (.fa 2 (.t 1))) (.c (.q 10 [] (.ld (.t 9))) (.c (.e (some 11) [] (.call false 198 [(.t 10)])) (.c (.e (some 12) [] (.call false 197 [(.t 8), (.t 11)])) (.c (.e none [] (.st 3 (.t 2) (.t 12))) (.c (.q 3 [] (.mv (.c (.bool true)))) .nil)))))))) .ret)
theorem u_iTurnMethod_2 (P : Program) (k : KT) (e : Env) (w : World) : vcK P t_iTurnMethod_2 k e w = vcK P (.seq (.drw [2, 3] (.c (.q 8 [] (.lda 3 (.t 1))) (.c (.q 9 [] (.fa 2 (.t 1))) (.c (.q 10 [] (.ld (.t 9))) (.c (.e (some 11) [] (.call false 198 [(.t 10)])) (.c (.e (some 12) [] (.call false 197 [(.t 8), (.t 11)])) (.c (.e none [] (.st 3 (.t 2) (.t 12))) (.c (.q 3 [] (.mv (.c (.bool true)))) .nil)))))))) .ret) k e w := rfl
def t_iTurnMethod_3 : X := (.seq (.seq (.reg [1, 2, 6] (.c (.q 4 [] (.lda 3 (.t 1))) (.c (.e (some 5) [] (.call false 188 [(.t 4)])) (.c (.q 6 [] (.not (.t 5))) .nil)))) t_iTurnMethod_1) t_iTurnMethod_2)
theorem u_iTurnMethod_3 (P : Program) (k : KT) (e : Env) (w : World) : vcK P t_iTurnMethod_3 k e w = vcK P (.seq (.seq (.reg [1, 2, 6] (.c (.q 4 [] (.lda 3 (.t 1))) (.c (.e (some 5) [] (.call false 188 [(.t 4)])) (.c (.q 6 [] (.not (.t 5))) .nil)))) t_iTurnMethod_1) t_iTurnMethod_2) k e w := rfl
def x_iTurnMethod : X := (.seq (.reg [1, 2] (.c (.e (some 1) [] (.box 58 (.t 0))) (.c (.e (some 2) [] (.al 58 [(S []), (.int .i64 0), (.slice none 0 0)])) (.c (.q 3 [] (.mv (.c (.bool false)))) .nil)))) t_iTurnMethod_3)
theorem u_iTurnMethod (P : Program) (k : KT) (e : Env) (w : World) : vcK P x_iTurnMethod k e w = vcK P (.seq (.reg [1, 2] (.c (.e (some 1) [] (.box 58 (.t 0))) (.c (.e (some 2) [] (.al 58 [(S []), (.int .i64 0), (.slice none 0 0)])) (.c (.q 3 [] (.mv (.c (.bool false)))) .nil)))) t_iTurnMethod_3) k e w := rfl
def r_iTurnMethod : List XO := [(.lda 3 (.t 2)), (.mv (.t 3))]
theorem c_iTurnMethod : convF Try.prog [145, 147, 148, 149, 158, 205, 206, 232, 234, 247, 248, 256, 261, 283, 284, 299, 300, 307] Try.f57 [([1, 2], []), ([1, 2, 6], []), ([2, 3], []), ([2, 3], [])] = some (x_iTurnMethod, r_iTurnMethod) := by kernel_rfl
def us_iTurnMethod := And.intro @u_iTurnMethod (And.intro @u_iTurnMethod_1 (And.intro @u_iTurnMethod_2 @u_iTurnMethod_3))

theorem xslices_Clone_string_string_ok (v : Value) (l : List (List UInt8)) (hl : l.length ≤ 1000000000) (w : World) (h : Sq fS 1 w v l) : Fn 211 [v] w (fun r w' => Own fS 1 9 w.heap.size w' r l) := by
  (refine callsV_of mix Try.func211 c_xslices_Clone_string_string ?_; simp only [↓vsd, vsn, gW, qd, qv, ev, pick, argE, List.map_cons, List.map_nil, Option.map_some, Option.map_none, zipE, List.cons_append, List.nil_append, ne_eq, eq_self, forall_const, implies_true, if_true, if_false, reduceIte, List.cons.injEq, reduceCtorEq, Nat.reduceEqDiff, List.length_nil, List.length_cons, Nat.reduceAdd, Nat.reduceLT, List.set_cons_zero, List.set_cons_succ, ↓us_xslices_Clone_string_string, r_xslices_Clone_string_string])
  have hor := h.2.2
  rcases hor with ⟨rfl, h0⟩ | ⟨ad, c, rfl, _, _⟩
  · obtain rfl : l = [] := List.length_eq_zero_iff.1 h0
    simp only [↓vsd, vsn, gW, qd, qv, ev, pick, argE, List.map_cons, List.map_nil, Option.map_some, Option.map_none, zipE, List.cons_append, List.nil_append, ne_eq, eq_self, forall_const, implies_true, if_true, if_false, reduceIte, List.cons.injEq, reduceCtorEq, Nat.reduceEqDiff, List.length_nil, List.length_cons, Nat.reduceAdd, Nat.reduceLT, List.set_cons_zero, List.set_cons_succ, ↓us_xslices_Clone_string_string, r_xslices_Clone_string_string]
    exact ⟨fun _ => ⟨Ext.refl _, Own.nil fS_len⟩, fun h => absurd rfl h⟩
  · simp only [↓vsd, vsn, gW, qd, qv, ev, pick, argE, List.map_cons, List.map_nil, Option.map_some, Option.map_none, zipE, List.cons_append, List.nil_append, ne_eq, eq_self, forall_const, implies_true, if_true, if_false, reduceIte, List.cons.injEq, reduceCtorEq, Nat.reduceEqDiff, List.length_nil, List.length_cons, Nat.reduceAdd, Nat.reduceLT, List.set_cons_zero, List.set_cons_succ, ↓us_xslices_Clone_string_string, r_xslices_Clone_string_string]
    refine ⟨fun h => (by cases h), fun _ => m_bsl (by simp) ?_⟩
    rintro b w1 hb hblk hx1 hs1
    simp only [↓vsd, vsn, gW, qd, qv, ev, pick, argE, List.map_cons, List.map_nil, Option.map_some, Option.map_none, zipE, List.cons_append, List.nil_append, ne_eq, eq_self, forall_const, implies_true, if_true, if_false, reduceIte, List.cons.injEq, reduceCtorEq, Nat.reduceEqDiff, List.length_nil, List.length_cons, Nat.reduceAdd, Nat.reduceLT, List.set_cons_zero, List.set_cons_succ, ↓us_xslices_Clone_string_string, r_xslices_Clone_string_string]
    have ho : Own fS 1 9 w.heap.size w1 (.slice (some ⟨b, 0, none⟩) 0 0) ([] : List (List UInt8)) := (Own.empty fS_len hblk (by omega)).to (by simp)
    refine m_app ho (h.ext hx1) fS_one (by decide) (by simp; omega) (by decide) hx1.size ?_
    rintro x w2 ho2 hg2
    have hx2 := ho.grown hx1 (Nat.le_refl _) hg2
    simp only [↓vsd, vsn, gW, qd, qv, ev, pick, argE, List.map_cons, List.map_nil, Option.map_some, Option.map_none, zipE, List.cons_append, List.nil_append, ne_eq, eq_self, forall_const, implies_true, if_true, if_false, reduceIte, List.cons.injEq, reduceCtorEq, Nat.reduceEqDiff, List.length_nil, List.length_cons, Nat.reduceAdd, Nat.reduceLT, List.set_cons_zero, List.set_cons_succ, ↓us_xslices_Clone_string_string, r_xslices_Clone_string_string]
    exact ⟨hx2, ho2.to (by simp)⟩
theorem rev_step {l m : List (List UInt8)} {k q : Nat} (hk : k < q) (hn : k + q + 1 = l.length) (hm : m.length = l.length ∧ ∀ j < l.length, m.getD j [] = if j < k ∨ l.length < j + k + 1 then l.getD (l.length - 1 - j) [] else l.getD j []) :
    ((m.set k (m.getD q [])).set q (m.getD k [])).length = l.length ∧ ∀ j < l.length, ((m.set k (m.getD q [])).set q (m.getD k [])).getD j [] = if j < k + 1 ∨ l.length < j + (k + 1) + 1 then l.getD (l.length - 1 - j) [] else l.getD j [] := by
  obtain ⟨h1, h2⟩ := hm
  refine ⟨by rw [List.length_set, List.length_set, h1], fun j hj => ?_⟩
  rw [getD_set, List.length_set]
  by_cases hjq : j = q
  · subst hjq
    rw [if_pos ⟨rfl, by omega⟩, h2 k (by omega), if_neg (by omega), if_pos (by omega)]
    congr 1; omega
  · rw [if_neg (by omega), getD_set]
    by_cases hjk : j = k
    · subst hjk
      rw [if_pos ⟨rfl, by omega⟩, h2 q (by omega), if_neg (by omega), if_pos (by omega)]
      congr 1; omega
    · rw [if_neg (by omega), h2 j hj]
      by_cases hc : j < k ∨ l.length < j + k + 1
      · rw [if_pos hc, if_pos (by omega)]
      · rw [if_neg hc, if_neg (by omega)]
theorem rev_get (l : List (List UInt8)) (j : Nat) (hj : j < l.length) : l.reverse.getD j [] = l.getD (l.length - 1 - j) [] := by
  rw [List.getD_eq_getElem?_getD, List.getD_eq_getElem?_getD, List.getElem?_reverse hj]
theorem xslices_Reverse_string_string_ok (v : Value) (l : List (List UInt8)) (B : Nat) (hl : l.length ≤ 1000000000) (w : World) (h : Own fS 1 9 B w v l) :
    CallsV Try.prog 282 [v] w (fun _ w' => Own fS 1 9 B w' v l.reverse ∧ w.grownBy w' v.ownBlock) := by
  (refine callsV_of mix Try.func282 c_xslices_Reverse_string_string ?_; simp only [↓vsd, vsn, gW, qd, qv, ev, pick, argE, List.map_cons, List.map_nil, Option.map_some, Option.map_none, zipE, List.cons_append, List.nil_append, ne_eq, eq_self, forall_const, implies_true, if_true, if_false, reduceIte, List.cons.injEq, reduceCtorEq, Nat.reduceEqDiff, List.length_nil, List.length_cons, Nat.reduceAdd, Nat.reduceLT, List.set_cons_zero, List.set_cons_succ, ↓us_xslices_Reverse_string_string, r_xslices_Reverse_string_string])
  simp only [↓vsd, vsn, gW, qd, qv, ev, pick, argE, List.map_cons, List.map_nil, Option.map_some, Option.map_none, zipE, List.cons_append, List.nil_append, ne_eq, eq_self, forall_const, implies_true, if_true, if_false, reduceIte, List.cons.injEq, reduceCtorEq, Nat.reduceEqDiff, List.length_nil, List.length_cons, Nat.reduceAdd, Nat.reduceLT, List.set_cons_zero, List.set_cons_succ, ↓us_xslices_Reverse_string_string, r_xslices_Reverse_string_string, h.sq.facts]
  refine ⟨inR_i64 (by omega), m_upto (l.length / 2) (fun k vs w' => ∃ m : List (List UInt8), vs = [.int .i64 k, .int .i64 ((l.length : Int) - 1 - k)] ∧ (m.length = l.length ∧ ∀ j < l.length, m.getD j [] = if j < k ∨ l.length < j + k + 1 then l.getD (l.length - 1 - j) [] else l.getD j []) ∧ Own fS 1 9 B w' v m ∧ w.grownBy w' v.ownBlock) ⟨l, by rw [show (l.length : Int) - 1 - (0 : Nat) = (l.length : Int) - 1 by omega]; rfl, ⟨rfl, fun j hj => by rw [if_neg (by omega)]⟩, h, grown_refl _ _⟩ ?_⟩
  rintro k vs w1 hk ⟨m, rfl, hm, ho, hg⟩
  by_cases hlt : k < l.length / 2
  · obtain ⟨q, hq⟩ : ∃ q : Nat, (l.length : Int) - 1 - k = q := ⟨l.length - 1 - k, by omega⟩
    have hkq : k < q := by omega
    have hkI : (k : Int) < q := by omega
    have hkA : k < m.length := by have := hm.1; omega
    have hqA : q < m.length := by have := hm.1; omega
    simp only [↓vsd, vsn, gW, qd, qv, ev, pick, argE, List.map_cons, List.map_nil, Option.map_some, Option.map_none, zipE, List.cons_append, List.nil_append, ne_eq, eq_self, forall_const, implies_true, if_true, if_false, reduceIte, List.cons.injEq, reduceCtorEq, Nat.reduceEqDiff, List.length_nil, List.length_cons, Nat.reduceAdd, Nat.reduceLT, List.set_cons_zero, List.set_cons_succ, ↓us_xslices_Reverse_string_string, r_xslices_Reverse_string_string, hq, hkI, ho.sq.facts, ho.sq.at1 [] hkA, ho.sq.at1 [] hqA]
    refine ⟨by omega, by omega, by omega, m_set1 k (m.getD q []) (ho.ext (dr (Ext.refl _))) rfl hkA rfl fS_one ?_⟩
    rintro w2 ho2 hg2 _
    simp only [↓vsd, vsn, gW, qd, qv, ev, pick, argE, List.map_cons, List.map_nil, Option.map_some, Option.map_none, zipE, List.cons_append, List.nil_append, ne_eq, eq_self, forall_const, implies_true, if_true, if_false, reduceIte, List.cons.injEq, reduceCtorEq, Nat.reduceEqDiff, List.length_nil, List.length_cons, Nat.reduceAdd, Nat.reduceLT, List.set_cons_zero, List.set_cons_succ, ↓us_xslices_Reverse_string_string, r_xslices_Reverse_string_string, ho2.sq.facts, List.length_set]
    refine ⟨by omega, m_set1 q (m.getD k []) ho2 rfl (by rw [List.length_set]; exact hqA) rfl fS_one ?_⟩
    rintro w3 ho3 hg3 _
    simp only [↓vsd, vsn, gW, qd, qv, ev, pick, argE, List.map_cons, List.map_nil, Option.map_some, Option.map_none, zipE, List.cons_append, List.nil_append, ne_eq, eq_self, forall_const, implies_true, if_true, if_false, reduceIte, List.cons.injEq, reduceCtorEq, Nat.reduceEqDiff, List.length_nil, List.length_cons, Nat.reduceAdd, Nat.reduceLT, List.set_cons_zero, List.set_cons_succ, ↓us_xslices_Reverse_string_string, r_xslices_Reverse_string_string]
    have hg2' : w1.grownBy w2 v.ownBlock := ⟨hg2.os, hg2.tape, hg2.output, hg2.size, hg2.block⟩
    refine ⟨inR_i64 (by omega), inR_i64 (by omega), UpTo.next hlt ⟨_, by rw [show (q : Int) - 1 = (l.length : Int) - 1 - ((k + 1 : Nat) : Int) by omega]; rfl, rev_step hkq (by omega) hm, ho3, grown_trans hg (grown_trans hg2' hg3)⟩⟩
  · have hkI : ¬ (k : Int) < (l.length : Int) - 1 - k := by omega
    simp only [↓vsd, vsn, gW, qd, qv, ev, pick, argE, List.map_cons, List.map_nil, Option.map_some, Option.map_none, zipE, List.cons_append, List.nil_append, ne_eq, eq_self, forall_const, implies_true, if_true, if_false, reduceIte, List.cons.injEq, reduceCtorEq, Nat.reduceEqDiff, List.length_nil, List.length_cons, Nat.reduceAdd, Nat.reduceLT, List.set_cons_zero, List.set_cons_succ, ↓us_xslices_Reverse_string_string, r_xslices_Reverse_string_string, hkI]
    have h1 := hm.1
    refine ⟨ho.to (ext_getD (d := []) (by rw [h1, List.length_reverse]) fun j hj => ?_), hg⟩
    rw [hm.2 j (by omega), rev_get l j (by omega)]
    split
    · rfl
    · rw [show l.length - 1 - j = j by omega]
theorem ireversed_ok (v : Value) (l : List (List UInt8)) (hl : l.length ≤ 1000000000) (w : World) (h : Sq fS 1 w v l) : Fn 198 [v] w (fun r w' => Own fS 1 9 w.heap.size w' r l.reverse) := by
  (refine callsV_of mix Try.func198 c_ireversed ?_; simp only [↓vsd, vsn, gW, qd, qv, ev, pick, argE, List.map_cons, List.map_nil, Option.map_some, Option.map_none, zipE, List.cons_append, List.nil_append, ne_eq, eq_self, forall_const, implies_true, if_true, if_false, reduceIte, List.cons.injEq, reduceCtorEq, Nat.reduceEqDiff, List.length_nil, List.length_cons, Nat.reduceAdd, Nat.reduceLT, List.set_cons_zero, List.set_cons_succ, ↓us_ireversed, r_ireversed])
  refine m_call (xslices_Clone_string_string_ok v l hl _ h) ?_
  rintro x w1 hx1 ho1
  simp only [↓vsd, vsn, gW, qd, qv, ev, pick, argE, List.map_cons, List.map_nil, Option.map_some, Option.map_none, zipE, List.cons_append, List.nil_append, ne_eq, eq_self, forall_const, implies_true, if_true, if_false, reduceIte, List.cons.injEq, reduceCtorEq, Nat.reduceEqDiff, List.length_nil, List.length_cons, Nat.reduceAdd, Nat.reduceLT, List.set_cons_zero, List.set_cons_succ, ↓us_ireversed, r_ireversed]
  refine m_callw (.inl rfl) (xslices_Reverse_string_string_ok x l _ hl _ ho1) ?_
  rintro _ w2 ⟨ho2, hg2⟩
  simp only [↓vsd, vsn, gW, qd, qv, ev, pick, argE, List.map_cons, List.map_nil, Option.map_some, Option.map_none, zipE, List.cons_append, List.nil_append, ne_eq, eq_self, forall_const, implies_true, if_true, if_false, reduceIte, List.cons.injEq, reduceCtorEq, Nat.reduceEqDiff, List.length_nil, List.length_cons, Nat.reduceAdd, Nat.reduceLT, List.set_cons_zero, List.set_cons_succ, ↓us_ireversed, r_ireversed]
  exact ⟨ho1.grown hx1 (Nat.le_refl _) hg2, ho2⟩
/-- The same both ways. -/
def IsPal (l : List (List UInt8)) : Prop := ∀ i < l.length, l.getD i [] = l.getD (l.length - 1 - i) []
instance (l : List (List UInt8)) : Decidable (IsPal l) := by unfold IsPal; infer_instance
theorem isameBothWays_ok (v : Value) (l : List (List UInt8)) (hl : l.length ≤ 1000000000) (w : World) (h : Sq fS 1 w v l) : Fn 281 [v] w (fun r _ => r = .bool (decide (IsPal l))) := by
  (refine callsV_of mix Try.func281 c_isameBothWays ?_; simp only [↓vsd, vsn, gW, qd, qv, ev, pick, argE, List.map_cons, List.map_nil, Option.map_some, Option.map_none, zipE, List.cons_append, List.nil_append, ne_eq, eq_self, forall_const, implies_true, if_true, if_false, reduceIte, List.cons.injEq, reduceCtorEq, Nat.reduceEqDiff, List.length_nil, List.length_cons, Nat.reduceAdd, Nat.reduceLT, List.set_cons_zero, List.set_cons_succ, ↓us_isameBothWays, r_isameBothWays])
  simp only [↓vsd, vsn, gW, qd, qv, ev, pick, argE, List.map_cons, List.map_nil, Option.map_some, Option.map_none, zipE, List.cons_append, List.nil_append, ne_eq, eq_self, forall_const, implies_true, if_true, if_false, reduceIte, List.cons.injEq, reduceCtorEq, Nat.reduceEqDiff, List.length_nil, List.length_cons, Nat.reduceAdd, Nat.reduceLT, List.set_cons_zero, List.set_cons_succ, ↓us_isameBothWays, r_isameBothWays, h.facts]
  refine m_upto l.length (fun k vs w' => vs = [.int .i64 k] ∧ (∀ i < k, l.getD i [] = l.getD (l.length - 1 - i) []) ∧ Ext w w') ⟨rfl, fun i hi => absurd hi (Nat.not_lt_zero i), Ext.refl _⟩ ?_
  rintro k vs w1 hk ⟨rfl, hall, hx⟩
  have hq := h.ext hx
  by_cases hlt : k < l.length
  · have hltI : (k : Int) < l.length := by omega
    have hltJ : ¬ (l.length : Int) ≤ k := by omega
    obtain ⟨q, hqe⟩ : ∃ q : Nat, (l.length : Int) - 1 - k = q := ⟨l.length - 1 - k, by omega⟩
    have hqn : l.length - 1 - k = q := by omega
    have hqA : q < l.length := by omega
    simp only [↓vsd, vsn, gW, qd, qv, ev, pick, argE, List.map_cons, List.map_nil, Option.map_some, Option.map_none, zipE, List.cons_append, List.nil_append, ne_eq, eq_self, forall_const, implies_true, if_true, if_false, reduceIte, List.cons.injEq, reduceCtorEq, Nat.reduceEqDiff, List.length_nil, List.length_cons, Nat.reduceAdd, Nat.reduceLT, List.set_cons_zero, List.set_cons_succ, ↓us_isameBothWays, r_isameBothWays, hltI, hltJ, hqe, hq.facts, hq.at1 [] hlt, hq.at1 [] hqA]
    refine ⟨by omega, inR_i64 (by omega), inR_i64 (by omega), by omega, fun hne => ⟨hx, ?_⟩, fun he => ⟨inR_i64 (by omega), UpTo.next hlt ⟨rfl, fun i hi => ?_, by first | exact hx | exact dr hx⟩⟩⟩
    · rw [decide_eq_false (fun hp : IsPal l => hne (by have := hp k hlt; rwa [hqn] at this))]
    · rcases Nat.lt_succ_iff_lt_or_eq.1 hi with h' | rfl
      · exact hall i h'
      · rw [hqn]; exact he
  · obtain rfl : k = l.length := by omega
    have hltI : ¬ (l.length : Int) < l.length := by omega
    simp only [↓vsd, vsn, gW, qd, qv, ev, pick, argE, List.map_cons, List.map_nil, Option.map_some, Option.map_none, zipE, List.cons_append, List.nil_append, ne_eq, eq_self, forall_const, implies_true, if_true, if_false, reduceIte, List.cons.injEq, reduceCtorEq, Nat.reduceEqDiff, List.length_nil, List.length_cons, Nat.reduceAdd, Nat.reduceLT, List.set_cons_zero, List.set_cons_succ, ↓us_isameBothWays, r_isameBothWays, hltI]
    exact ⟨hx, by rw [decide_eq_true (show IsPal l from hall)]⟩
theorem ipalindrome_ok (nm : List UInt8) (st : Int) (v : Value) (cs : List (List UInt8)) (hl : 1 ≤ cs.length ∧ cs.length ≤ 1000000000) (w : World) (h : Sq fS 1 w v cs) : Fn 196 [mV nm st v] w (fun r _ => r = .bool (decide (IsPal (cs.take (cs.length - 1))))) := by
  (refine callsV_of mix Try.func196 c_ipalindrome ?_; simp only [↓vsd, vsn, gW, qd, qv, ev, pick, argE, List.map_cons, List.map_nil, Option.map_some, Option.map_none, zipE, List.cons_append, List.nil_append, ne_eq, eq_self, forall_const, implies_true, if_true, if_false, reduceIte, List.cons.injEq, reduceCtorEq, Nat.reduceEqDiff, List.length_nil, List.length_cons, Nat.reduceAdd, Nat.reduceLT, List.set_cons_zero, List.set_cons_succ, ↓us_ipalindrome, r_ipalindrome])
  refine m_al ?_
  rintro b w1 hb hblk hx1 hs1
  have h1 : Blk w1 b (fM nm st v) 58 := hblk
  have hq1 := h.ext hx1
  have hs := hq1.headS .i64 (cs.length - 1) (by omega)
  have e1 : (cs.length : Int) - 1 = (cs.length - 1 : Nat) := by omega
  simp only [↓vsd, vsn, gW, qd, qv, ev, pick, argE, List.map_cons, List.map_nil, Option.map_some, Option.map_none, zipE, List.cons_append, List.nil_append, ne_eq, eq_self, forall_const, implies_true, if_true, if_false, reduceIte, List.cons.injEq, reduceCtorEq, Nat.reduceEqDiff, List.length_nil, List.length_cons, Nat.reduceAdd, Nat.reduceLT, List.set_cons_zero, List.set_cons_succ, ↓us_ipalindrome, r_ipalindrome, h1.facts, fMg, hq1.facts, e1, hs.1]
  refine ⟨inR_i64 (by omega), m_call (isameBothWays_ok _ _ (by rw [List.length_take]; omega) _ hs.2) ?_⟩
  rintro _ w2 hx2 rfl
  simp only [↓vsd, vsn, gW, qd, qv, ev, pick, argE, List.map_cons, List.map_nil, Option.map_some, Option.map_none, zipE, List.cons_append, List.nil_append, ne_eq, eq_self, forall_const, implies_true, if_true, if_false, reduceIte, List.cons.injEq, reduceCtorEq, Nat.reduceEqDiff, List.length_nil, List.length_cons, Nat.reduceAdd, Nat.reduceLT, List.set_cons_zero, List.set_cons_succ, ↓us_ipalindrome, r_ipalindrome]
  exact hx1.trans hx2
theorem iIsPalindrome_ok (nm : List UInt8) (st : Int) (v : Value) (cs : List (List UInt8)) (hnm : nm.length ≤ 1048576) (hs : ∀ c ∈ cs, c.length ≤ 1048576) (hl : cs.length ≤ 1000000000) (w : World) (h : Sq fS 1 w v cs) : Fn 56 [mV nm st v] w (fun r _ => r = .tuple ⟨[.bool (decide (IsMethod nm st cs ∧ IsPal (cs.take (cs.length - 1)))), .bool (decide (IsMethod nm st cs))]⟩) := by
  (refine callsV_of mix Try.func56 c_iIsPalindrome ?_; simp only [↓vsd, vsn, gW, qd, qv, ev, pick, argE, List.map_cons, List.map_nil, Option.map_some, Option.map_none, zipE, List.cons_append, List.nil_append, ne_eq, eq_self, forall_const, implies_true, if_true, if_false, reduceIte, List.cons.injEq, reduceCtorEq, Nat.reduceEqDiff, List.length_nil, List.length_cons, Nat.reduceAdd, Nat.reduceLT, List.set_cons_zero, List.set_cons_succ, ↓us_iIsPalindrome, r_iIsPalindrome])
  refine m_al ?_
  rintro b w1 hb hblk hx1 hs1
  have h1 : Blk w1 b (fM nm st v) 58 := hblk
  simp only [↓vsd, vsn, gW, qd, qv, ev, pick, argE, List.map_cons, List.map_nil, Option.map_some, Option.map_none, zipE, List.cons_append, List.nil_append, ne_eq, eq_self, forall_const, implies_true, if_true, if_false, reduceIte, List.cons.injEq, reduceCtorEq, Nat.reduceEqDiff, List.length_nil, List.length_cons, Nat.reduceAdd, Nat.reduceLT, List.set_cons_zero, List.set_cons_succ, ↓us_iIsPalindrome, r_iIsPalindrome, h1.facts, fMg]
  refine m_call (iGoodMethod_ok nm st v cs hnm hs hl _ (h.ext hx1)) ?_
  rintro _ w2 hx2 rfl
  have h2 := h1.ext hx2
  by_cases hm : IsMethod nm st cs
  · simp only [↓vsd, vsn, gW, qd, qv, ev, pick, argE, List.map_cons, List.map_nil, Option.map_some, Option.map_none, zipE, List.cons_append, List.nil_append, ne_eq, eq_self, forall_const, implies_true, if_true, if_false, reduceIte, List.cons.injEq, reduceCtorEq, Nat.reduceEqDiff, List.length_nil, List.length_cons, Nat.reduceAdd, Nat.reduceLT, List.set_cons_zero, List.set_cons_succ, ↓us_iIsPalindrome, r_iIsPalindrome, hm, h2.facts, fMg]
    refine m_call (ipalindrome_ok nm st v cs ⟨hm.2.2.1.1, hl⟩ _ ((h.ext hx1).ext hx2)) ?_
    rintro _ w3 hx3 rfl
    simp only [↓vsd, vsn, gW, qd, qv, ev, pick, argE, List.map_cons, List.map_nil, Option.map_some, Option.map_none, zipE, List.cons_append, List.nil_append, ne_eq, eq_self, forall_const, implies_true, if_true, if_false, reduceIte, List.cons.injEq, reduceCtorEq, Nat.reduceEqDiff, List.length_nil, List.length_cons, Nat.reduceAdd, Nat.reduceLT, List.set_cons_zero, List.set_cons_succ, ↓us_iIsPalindrome, r_iIsPalindrome]
    exact (hx1.trans hx2).trans hx3
  · simp only [↓vsd, vsn, gW, qd, qv, ev, pick, argE, List.map_cons, List.map_nil, Option.map_some, Option.map_none, zipE, List.cons_append, List.nil_append, ne_eq, eq_self, forall_const, implies_true, if_true, if_false, reduceIte, List.cons.injEq, reduceCtorEq, Nat.reduceEqDiff, List.length_nil, List.length_cons, Nat.reduceAdd, Nat.reduceLT, List.set_cons_zero, List.set_cons_succ, ↓us_iIsPalindrome, r_iIsPalindrome, hm]
    exact hx1.trans hx2
theorem iTurnMethod_ok (nm : List UInt8) (st : Int) (v : Value) (cs : List (List UInt8)) (hm : IsMethod nm st cs) (hnm : nm.length ≤ 1048576) (hs : ∀ c ∈ cs, c.length ≤ 1048576) (hl : cs.length ≤ 1000000000) (w : World) (h : Sq fS 1 w v cs) : Fn 57 [mV nm st v] w (fun r w' => ∃ x, r = .tuple ⟨[mV nm st x, .bool true]⟩ ∧ Own fS 1 9 w.heap.size w' x cs.reverse) := by
  (refine callsV_of mix Try.func57 c_iTurnMethod ?_; simp only [↓vsd, vsn, gW, qd, qv, ev, pick, argE, List.map_cons, List.map_nil, Option.map_some, Option.map_none, zipE, List.cons_append, List.nil_append, ne_eq, eq_self, forall_const, implies_true, if_true, if_false, reduceIte, List.cons.injEq, reduceCtorEq, Nat.reduceEqDiff, List.length_nil, List.length_cons, Nat.reduceAdd, Nat.reduceLT, List.set_cons_zero, List.set_cons_succ, ↓us_iTurnMethod, r_iTurnMethod])
  refine m_al ?_
  rintro b w1 hb hblk hx1 hs1
  have h1 : Blk w1 b (fM nm st v) 58 := hblk
  simp only [↓vsd, vsn, gW, qd, qv, ev, pick, argE, List.map_cons, List.map_nil, Option.map_some, Option.map_none, zipE, List.cons_append, List.nil_append, ne_eq, eq_self, forall_const, implies_true, if_true, if_false, reduceIte, List.cons.injEq, reduceCtorEq, Nat.reduceEqDiff, List.length_nil, List.length_cons, Nat.reduceAdd, Nat.reduceLT, List.set_cons_zero, List.set_cons_succ, ↓us_iTurnMethod, r_iTurnMethod]
  refine m_al ?_
  rintro b0 w0 hb0 hblk0 hx0 hs0
  have h0 := h1.ext hx0
  have hx10 := hx1.trans hx0
  simp only [↓vsd, vsn, gW, qd, qv, ev, pick, argE, List.map_cons, List.map_nil, Option.map_some, Option.map_none, zipE, List.cons_append, List.nil_append, ne_eq, eq_self, forall_const, implies_true, if_true, if_false, reduceIte, List.cons.injEq, reduceCtorEq, Nat.reduceEqDiff, List.length_nil, List.length_cons, Nat.reduceAdd, Nat.reduceLT, List.set_cons_zero, List.set_cons_succ, ↓us_iTurnMethod, r_iTurnMethod, h0.facts, fMg]
  refine m_call (iGoodMethod_ok nm st v cs hnm hs hl _ (h.ext hx10)) ?_
  rintro _ w2 hx2 rfl
  have h2 := h0.ext hx2
  have hx12 := hx10.trans hx2
  simp only [↓vsd, vsn, gW, qd, qv, ev, pick, argE, List.map_cons, List.map_nil, Option.map_some, Option.map_none, zipE, List.cons_append, List.nil_append, ne_eq, eq_self, forall_const, implies_true, if_true, if_false, reduceIte, List.cons.injEq, reduceCtorEq, Nat.reduceEqDiff, List.length_nil, List.length_cons, Nat.reduceAdd, Nat.reduceLT, List.set_cons_zero, List.set_cons_succ, ↓us_iTurnMethod, r_iTurnMethod, hm, h2.facts, fMg]
  refine m_call (ireversed_ok v cs hl _ (h.ext (dr hx12))) ?_
  rintro x w3 hx3 ho3
  have hx3 := ud hx3
  simp only [↓vsd, vsn, gW, qd, qv, ev, pick, argE, List.map_cons, List.map_nil, Option.map_some, Option.map_none, zipE, List.cons_append, List.nil_append, ne_eq, eq_self, forall_const, implies_true, if_true, if_false, reduceIte, List.cons.injEq, reduceCtorEq, Nat.reduceEqDiff, List.length_nil, List.length_cons, Nat.reduceAdd, Nat.reduceLT, List.set_cons_zero, List.set_cons_succ, ↓us_iTurnMethod, r_iTurnMethod]
  refine m_call (iwithChanges_ok nm st v x _ ho3.sq.one' (of_eq_true ho3.sq.oneC)) ?_
  rintro _ w4 hx4 rfl
  simp only [↓vsd, vsn, gW, qd, qv, ev, pick, argE, List.map_cons, List.map_nil, Option.map_some, Option.map_none, zipE, List.cons_append, List.nil_append, ne_eq, eq_self, forall_const, implies_true, if_true, if_false, reduceIte, List.cons.injEq, reduceCtorEq, Nat.reduceEqDiff, List.length_nil, List.length_cons, Nat.reduceAdd, Nat.reduceLT, List.set_cons_zero, List.set_cons_succ, ↓us_iTurnMethod, r_iTurnMethod]
  have hx14 := (hx12.trans hx3).trans hx4
  have hs2 : b0 < w2.heap.size := by have := hx2.size; omega
  refine m_st (((hblk0.ext hx2).ext hx3).ext hx4) rfl (Nat.le_refl 3) (fM_one nm st x ho3.sq.one') ?_
  rintro w5 hblk5 hu5
  have h5 : Blk w5 b0 (fM nm st x) 58 := hblk5
  have hx5 : Ext w w5 := hu5.below hx14 (by have := hx1.size; omega)
  simp only [↓vsd, vsn, gW, qd, qv, ev, pick, argE, List.map_cons, List.map_nil, Option.map_some, Option.map_none, zipE, List.cons_append, List.nil_append, ne_eq, eq_self, forall_const, implies_true, if_true, if_false, reduceIte, List.cons.injEq, reduceCtorEq, Nat.reduceEqDiff, List.length_nil, List.length_cons, Nat.reduceAdd, Nat.reduceLT, List.set_cons_zero, List.set_cons_succ, ↓us_iTurnMethod, r_iTurnMethod, h5.facts, fMg]
  exact ⟨hx5, x, rfl, ((ho3.ext hx4).upd hu5 (ho3.away' hs2)).mono hx12.size⟩
end Go.Proofs.Ytjcnmobdlkmaeaa
