/-
  Hunt bells and still bells, of both sides.
  Conditions: none.
-/
import Derived.Test.YtjcnmobdlkmaeaaA11
import Derived.Test.YtjcnmobdlkmaeaaVw
set_option linter.unusedSimpArgs false
set_option linter.unusedVariables false
set_option linter.defProp false
namespace Go.Proofs.Ytjcnmobdlkmaeaa
open Go Go.RowKit
def t_istillS1_1 : X := (.seq (.drw [3] (.c (.q 4 [] (.mv (.t 0))) (.c (.q 5 [] (.ld (.t 1))) (.c (.q 6 [] (.idx (.t 4) (.t 5))) (.c (.q 7 [] (.ld (.t 1))) (.c (.q 8 [] (.bin .add (.c (.int .i64 49)) (.t 7))) (.c (.q 9 [] (.cvi .u8 (.t 8))) (.c (.q 10 [] (.bin .neq (.t 6) (.t 9))) (.c (.q 3 [] (.mv (.t 10))) .nil))))))))) .ret)
theorem u_istillS1_1 (P : Program) (k : KT) (e : Env) (w : World) : vcK P t_istillS1_1 k e w = vcK P (.seq (.drw [3] (.c (.q 4 [] (.mv (.t 0))) (.c (.q 5 [] (.ld (.t 1))) (.c (.q 6 [] (.idx (.t 4) (.t 5))) (.c (.q 7 [] (.ld (.t 1))) (.c (.q 8 [] (.bin .add (.c (.int .i64 49)) (.t 7))) (.c (.q 9 [] (.cvi .u8 (.t 8))) (.c (.q 10 [] (.bin .neq (.t 6) (.t 9))) (.c (.q 3 [] (.mv (.t 10))) .nil))))))))) .ret) k e w := rfl
def x_istillS1 : X := (.seq (.reg [0, 1] (.c (.q 3 [] (.mv (.c (.bool false)))) .nil)) t_istillS1_1)
theorem u_istillS1 (P : Program) (k : KT) (e : Env) (w : World) : vcK P x_istillS1 k e w = vcK P (.seq (.reg [0, 1] (.c (.q 3 [] (.mv (.c (.bool false)))) .nil)) t_istillS1_1) k e w := rfl
def r_istillS1 : List XO := [(.mv (.t 3))]
theorem c_istillS1 : convF Try.prog [145, 147, 148, 149, 158, 205, 206, 232, 234, 247, 248, 256, 261, 283, 284, 299, 300, 307] Try.f279 [([0, 1], []), ([3], [])] = some (x_istillS1, r_istillS1) := by kernel_rfl
def us_istillS1 := And.intro @u_istillS1 @u_istillS1_1
def t_xslices_IndexFunc_string_string_1 : X := (.cond (.t 16) (.seq (.reg [4] (.c (.q 17 [] (.mv (.t 5))) (.c (.q 4 [] (.mv (.t 17))) .nil))) .ret) .skip)
theorem u_xslices_IndexFunc_string_string_1 (P : Program) (k : KT) (e : Env) (w : World) : vcK P t_xslices_IndexFunc_string_string_1 k e w = vcK P (.cond (.t 16) (.seq (.reg [4] (.c (.q 17 [] (.mv (.t 5))) (.c (.q 4 [] (.mv (.t 17))) .nil))) .ret) .skip) k e w := rfl
def t_xslices_IndexFunc_string_string_2 : X := (.seq (.reg [0, 1, 5, 7, 8, 16] (.c (.q 11 [] (.mv (.t 1))) (.c (.q 12 [] (.mv (.t 0))) (.c (.q 13 [] (.mv (.t 5))) (.c (.q 14 [] (.ia 1 (.t 12) (.t 13))) (.c (.q 15 [] (.ld (.t 14))) (.c (.e (some 16) [] (.callv (.t 11) [(.t 15)])) .nil))))))) t_xslices_IndexFunc_string_string_1)
theorem u_xslices_IndexFunc_string_string_2 (P : Program) (k : KT) (e : Env) (w : World) : vcK P t_xslices_IndexFunc_string_string_2 k e w = vcK P (.seq (.reg [0, 1, 5, 7, 8, 16] (.c (.q 11 [] (.mv (.t 1))) (.c (.q 12 [] (.mv (.t 0))) (.c (.q 13 [] (.mv (.t 5))) (.c (.q 14 [] (.ia 1 (.t 12) (.t 13))) (.c (.q 15 [] (.ld (.t 14))) (.c (.e (some 16) [] (.callv (.t 11) [(.t 15)])) .nil))))))) t_xslices_IndexFunc_string_string_1) k e w := rfl
def t_xslices_IndexFunc_string_string_3 : X := (.reg [0, 1, 7, 8] (.c (.q 18 [] (.bin .add (.t 8) (.c (.int .i64 1)))) (.c (.q 8 [] (.mv (.t 18))) .nil)))
theorem u_xslices_IndexFunc_string_string_3 (P : Program) (k : KT) (e : Env) (w : World) : vcK P t_xslices_IndexFunc_string_string_3 k e w = vcK P (.reg [0, 1, 7, 8] (.c (.q 18 [] (.bin .add (.t 8) (.c (.int .i64 1)))) (.c (.q 8 [] (.mv (.t 18))) .nil))) k e w := rfl
def t_xslices_IndexFunc_string_string_4 : X := (.seq (.blk 1 (.seq (.reg [0, 1, 5, 7, 8] (.c (.q 10 [] (.mv (.t 8))) (.c (.q 5 [] (.mv (.t 10))) .nil))) t_xslices_IndexFunc_string_string_2)) t_xslices_IndexFunc_string_string_3)
theorem u_xslices_IndexFunc_string_string_4 (P : Program) (k : KT) (e : Env) (w : World) : vcK P t_xslices_IndexFunc_string_string_4 k e w = vcK P (.seq (.blk 1 (.seq (.reg [0, 1, 5, 7, 8] (.c (.q 10 [] (.mv (.t 8))) (.c (.q 5 [] (.mv (.t 10))) .nil))) t_xslices_IndexFunc_string_string_2)) t_xslices_IndexFunc_string_string_3) k e w := rfl
def t_xslices_IndexFunc_string_string_5 : X := (.seq (.cond (.t 9) .skip (.exit 0)) t_xslices_IndexFunc_string_string_4)
theorem u_xslices_IndexFunc_string_string_5 (P : Program) (k : KT) (e : Env) (w : World) : vcK P t_xslices_IndexFunc_string_string_5 k e w = vcK P (.seq (.cond (.t 9) .skip (.exit 0)) t_xslices_IndexFunc_string_string_4) k e w := rfl
def t_xslices_IndexFunc_string_string_6 : X := (.seq (.reg [0, 1, 7, 8, 9] (.c (.q 9 [] (.bin .lss (.t 8) (.t 7))) .nil)) t_xslices_IndexFunc_string_string_5)
theorem u_xslices_IndexFunc_string_string_6 (P : Program) (k : KT) (e : Env) (w : World) : vcK P t_xslices_IndexFunc_string_string_6 k e w = vcK P (.seq (.reg [0, 1, 7, 8, 9] (.c (.q 9 [] (.bin .lss (.t 8) (.t 7))) .nil)) t_xslices_IndexFunc_string_string_5) k e w := rfl
def t_xslices_IndexFunc_string_string_7 : X := (.blk 0 (.loop [8] [0, 1, 7] t_xslices_IndexFunc_string_string_6))
theorem u_xslices_IndexFunc_string_string_7 (P : Program) (k : KT) (e : Env) (w : World) : vcK P t_xslices_IndexFunc_string_string_7 k e w = vcK P (.blk 0 (.loop [8] [0, 1, 7] t_xslices_IndexFunc_string_string_6)) k e w := rfl
def t_xslices_IndexFunc_string_string_8 : X := (.seq (.reg [4] (.c (.q 4 [] (.mv (.c (.int .i64 (-1))))) .nil)) .ret)
theorem u_xslices_IndexFunc_string_string_8 (P : Program) (k : KT) (e : Env) (w : World) : vcK P t_xslices_IndexFunc_string_string_8 k e w = vcK P (.seq (.reg [4] (.c (.q 4 [] (.mv (.c (.int .i64 (-1))))) .nil)) .ret) k e w := rfl
def t_xslices_IndexFunc_string_string_9 : X := (.seq (.seq (.reg [0, 1, 7, 8] (.c (.q 6 [] (.mv (.t 0))) (.c (.q 7 [] (.lens (.t 6))) (.c (.q 8 [] (.mv (.c (.int .i64 0)))) .nil)))) t_xslices_IndexFunc_string_string_7) t_xslices_IndexFunc_string_string_8)
theorem u_xslices_IndexFunc_string_string_9 (P : Program) (k : KT) (e : Env) (w : World) : vcK P t_xslices_IndexFunc_string_string_9 k e w = vcK P (.seq (.seq (.reg [0, 1, 7, 8] (.c (.q 6 [] (.mv (.t 0))) (.c (.q 7 [] (.lens (.t 6))) (.c (.q 8 [] (.mv (.c (.int .i64 0)))) .nil)))) t_xslices_IndexFunc_string_string_7) t_xslices_IndexFunc_string_string_8) k e w := rfl
def x_xslices_IndexFunc_string_string : X := (.seq (.reg [0, 1] (.c (.q 4 [] (.mv (.c (.int .i64 0)))) .nil)) t_xslices_IndexFunc_string_string_9)
theorem u_xslices_IndexFunc_string_string (P : Program) (k : KT) (e : Env) (w : World) : vcK P x_xslices_IndexFunc_string_string k e w = vcK P (.seq (.reg [0, 1] (.c (.q 4 [] (.mv (.c (.int .i64 0)))) .nil)) t_xslices_IndexFunc_string_string_9) k e w := rfl
def r_xslices_IndexFunc_string_string : List XO := [(.mv (.t 4))]
theorem c_xslices_IndexFunc_string_string : convF Try.prog [145, 147, 148, 149, 158, 205, 206, 232, 234, 247, 248, 256, 261, 283, 284, 299, 300, 307] Try.f306 [([0, 1], []), ([0, 1, 7, 8], []), ([8], [0, 1, 7]), ([0, 1, 7, 8, 9], []), ([0, 1, 5, 7, 8], []), ([0, 1, 5, 7, 8, 16], []), ([4], []), ([0, 1, 7, 8], []), ([4], [])] = some (x_xslices_IndexFunc_string_string, r_xslices_IndexFunc_string_string) := by kernel_rfl
def us_xslices_IndexFunc_string_string := And.intro @u_xslices_IndexFunc_string_string (And.intro @u_xslices_IndexFunc_string_string_1 (And.intro @u_xslices_IndexFunc_string_string_2 (And.intro @u_xslices_IndexFunc_string_string_3 (And.intro @u_xslices_IndexFunc_string_string_4 (And.intro @u_xslices_IndexFunc_string_string_5 (And.intro @u_xslices_IndexFunc_string_string_6 (And.intro @u_xslices_IndexFunc_string_string_7 (And.intro @u_xslices_IndexFunc_string_string_8 @u_xslices_IndexFunc_string_string_9))))))))
def t_xslices_ContainsFunc_string_string_1 : X := (.seq (.reg [4] (.c (.q 5 [] (.mv (.t 0))) (.c (.q 6 [] (.mv (.t 1))) (.c (.e (some 7) [] (.call false 306 [(.t 5), (.t 6)])) (.c (.q 8 [] (.bin .geq (.t 7) (.c (.int .i64 0)))) (.c (.q 4 [] (.mv (.t 8))) .nil)))))) .ret)
theorem u_xslices_ContainsFunc_string_string_1 (P : Program) (k : KT) (e : Env) (w : World) : vcK P t_xslices_ContainsFunc_string_string_1 k e w = vcK P (.seq (.reg [4] (.c (.q 5 [] (.mv (.t 0))) (.c (.q 6 [] (.mv (.t 1))) (.c (.e (some 7) [] (.call false 306 [(.t 5), (.t 6)])) (.c (.q 8 [] (.bin .geq (.t 7) (.c (.int .i64 0)))) (.c (.q 4 [] (.mv (.t 8))) .nil)))))) .ret) k e w := rfl
def x_xslices_ContainsFunc_string_string : X := (.seq (.reg [0, 1] (.c (.q 4 [] (.mv (.c (.bool false)))) .nil)) t_xslices_ContainsFunc_string_string_1)
theorem u_xslices_ContainsFunc_string_string (P : Program) (k : KT) (e : Env) (w : World) : vcK P x_xslices_ContainsFunc_string_string k e w = vcK P (.seq (.reg [0, 1] (.c (.q 4 [] (.mv (.c (.bool false)))) .nil)) t_xslices_ContainsFunc_string_string_1) k e w := rfl
def r_xslices_ContainsFunc_string_string : List XO := [(.mv (.t 4))]
theorem c_xslices_ContainsFunc_string_string : convF Try.prog [145, 147, 148, 149, 158, 205, 206, 232, 234, 247, 248, 256, 261, 283, 284, 299, 300, 307] Try.f278 [([0, 1], []), ([4], [])] = some (x_xslices_ContainsFunc_string_string, r_xslices_ContainsFunc_string_string) := by kernel_rfl
def us_xslices_ContainsFunc_string_string := And.intro @u_xslices_ContainsFunc_string_string @u_xslices_ContainsFunc_string_string_1
def t_istill_1 : X := (.cond (.t 15) (.reg [1, 5, 8, 9] (.c (.q 16 [] (.mv (.t 5))) (.c (.q 17 [] (.ld (.t 6))) (.c (.q 18 [] (.bin .add (.t 17) (.c (.int .i64 1)))) (.c (.e (some 19) [] (.bsl 3 1 [(.t 18)])) (.c (.e (some 20) [] (.app 28 3 1 8 [(.int .i64 0)] 28 (.t 16) (.t 19))) (.c (.q 5 [] (.mv (.t 20))) .nil))))))) .skip)
theorem u_istill_1 (P : Program) (k : KT) (e : Env) (w : World) : vcK P t_istill_1 k e w = vcK P (.cond (.t 15) (.reg [1, 5, 8, 9] (.c (.q 16 [] (.mv (.t 5))) (.c (.q 17 [] (.ld (.t 6))) (.c (.q 18 [] (.bin .add (.t 17) (.c (.int .i64 1)))) (.c (.e (some 19) [] (.bsl 3 1 [(.t 18)])) (.c (.e (some 20) [] (.app 28 3 1 8 [(.int .i64 0)] 28 (.t 16) (.t 19))) (.c (.q 5 [] (.mv (.t 20))) .nil))))))) .skip) k e w := rfl
def t_istill_2 : X := (.seq (.reg [1, 5, 6, 8, 9, 15] (.c (.q 12 [] (.mv (.t 1))) (.c (.q 13 [] (.mkf 279 [] [(.t 6)])) (.c (.e (some 14) [] (.call false 278 [(.t 12), (.t 13)])) (.c (.q 15 [] (.not (.t 14))) .nil))))) t_istill_1)
theorem u_istill_2 (P : Program) (k : KT) (e : Env) (w : World) : vcK P t_istill_2 k e w = vcK P (.seq (.reg [1, 5, 6, 8, 9, 15] (.c (.q 12 [] (.mv (.t 1))) (.c (.q 13 [] (.mkf 279 [] [(.t 6)])) (.c (.e (some 14) [] (.call false 278 [(.t 12), (.t 13)])) (.c (.q 15 [] (.not (.t 14))) .nil))))) t_istill_1) k e w := rfl
def t_istill_3 : X := (.reg [1, 5, 8, 9] (.c (.q 21 [] (.bin .add (.t 9) (.c (.int .i64 1)))) (.c (.q 9 [] (.mv (.t 21))) .nil)))
theorem u_istill_3 (P : Program) (k : KT) (e : Env) (w : World) : vcK P t_istill_3 k e w = vcK P (.reg [1, 5, 8, 9] (.c (.q 21 [] (.bin .add (.t 9) (.c (.int .i64 1)))) (.c (.q 9 [] (.mv (.t 21))) .nil))) k e w := rfl
def t_istill_4 : X := (.seq (.blk 1 (.seq (.reg [1, 5, 6, 8, 9] (.c (.q 11 [] (.mv (.t 9))) (.c (.e (some 6) [] (.al 3 [(.int .i64 0)])) (.c (.e none [] (.st 1 (.t 6) (.t 11))) .nil)))) t_istill_2)) t_istill_3)
theorem u_istill_4 (P : Program) (k : KT) (e : Env) (w : World) : vcK P t_istill_4 k e w = vcK P (.seq (.blk 1 (.seq (.reg [1, 5, 6, 8, 9] (.c (.q 11 [] (.mv (.t 9))) (.c (.e (some 6) [] (.al 3 [(.int .i64 0)])) (.c (.e none [] (.st 1 (.t 6) (.t 11))) .nil)))) t_istill_2)) t_istill_3) k e w := rfl
def t_istill_5 : X := (.seq (.cond (.t 10) .skip (.exit 0)) t_istill_4)
theorem u_istill_5 (P : Program) (k : KT) (e : Env) (w : World) : vcK P t_istill_5 k e w = vcK P (.seq (.cond (.t 10) .skip (.exit 0)) t_istill_4) k e w := rfl
def t_istill_6 : X := (.seq (.reg [1, 5, 8, 9, 10] (.c (.q 10 [] (.bin .lss (.t 9) (.t 8))) .nil)) t_istill_5)
theorem u_istill_6 (P : Program) (k : KT) (e : Env) (w : World) : vcK P t_istill_6 k e w = vcK P (.seq (.reg [1, 5, 8, 9, 10] (.c (.q 10 [] (.bin .lss (.t 9) (.t 8))) .nil)) t_istill_5) k e w := rfl
def t_istill_7 : X := (.blk 0 (.loop [5, 9] [1, 8] t_istill_6))
theorem u_istill_7 (P : Program) (k : KT) (e : Env) (w : World) : vcK P t_istill_7 k e w = vcK P (.blk 0 (.loop [5, 9] [1, 8] t_istill_6)) k e w := rfl
def t_istill_8 : X := (.seq (.reg [4] (.c (.q 22 [] (.mv (.t 5))) (.c (.q 4 [] (.mv (.t 22))) .nil))) .ret)
theorem u_istill_8 (P : Program) (k : KT) (e : Env) (w : World) : vcK P t_istill_8 k e w = vcK P (.seq (.reg [4] (.c (.q 22 [] (.mv (.t 5))) (.c (.q 4 [] (.mv (.t 22))) .nil))) .ret) k e w := rfl
def t_istill_9 : X := (.seq (.seq (.reg [1, 5, 8, 9] (.c (.q 8 [] (.mv (.t 0))) (.c (.q 9 [] (.mv (.c (.int .i64 0)))) .nil))) t_istill_7) t_istill_8)
theorem u_istill_9 (P : Program) (k : KT) (e : Env) (w : World) : vcK P t_istill_9 k e w = vcK P (.seq (.seq (.reg [1, 5, 8, 9] (.c (.q 8 [] (.mv (.t 0))) (.c (.q 9 [] (.mv (.c (.int .i64 0)))) .nil))) t_istill_7) t_istill_8) k e w := rfl
def t_istill_10 : X := (.seq (.reg [0, 1, 5] (.c (.e (some 7) [] (.bsl 3 1 [])) (.c (.q 5 [] (.mv (.t 7))) .nil))) t_istill_9)
theorem u_istill_10 (P : Program) (k : KT) (e : Env) (w : World) : vcK P t_istill_10 k e w = vcK P (.seq (.reg [0, 1, 5] (.c (.e (some 7) [] (.bsl 3 1 [])) (.c (.q 5 [] (.mv (.t 7))) .nil))) t_istill_9) k e w := rfl
def x_istill : X := (.seq (.reg [0, 1] (.c (.q 4 [] (.mv (.c (.slice none 0 0)))) .nil)) t_istill_10)
theorem u_istill (P : Program) (k : KT) (e : Env) (w : World) : vcK P x_istill k e w = vcK P (.seq (.reg [0, 1] (.c (.q 4 [] (.mv (.c (.slice none 0 0)))) .nil)) t_istill_10) k e w := rfl
def r_istill : List XO := [(.mv (.t 4))]
theorem c_istill : convF Try.prog [145, 147, 148, 149, 158, 205, 206, 232, 234, 247, 248, 256, 261, 283, 284, 299, 300, 307] Try.f189 [([0, 1], []), ([0, 1, 5], []), ([1, 5, 8, 9], []), ([5, 9], [1, 8]), ([1, 5, 8, 9, 10], []), ([1, 5, 6, 8, 9], []), ([1, 5, 6, 8, 9, 15], []), ([1, 5, 8, 9], []), ([1, 5, 8, 9], []), ([4], [])] = some (x_istill, r_istill) := by kernel_rfl
def us_istill := And.intro @u_istill (And.intro @u_istill_1 (And.intro @u_istill_2 (And.intro @u_istill_3 (And.intro @u_istill_4 (And.intro @u_istill_5 (And.intro @u_istill_6 (And.intro @u_istill_7 (And.intro @u_istill_8 (And.intro @u_istill_9 @u_istill_10)))))))))
def t_iHuntBells_1 : X := (.cond (.t 6) (.seq (.reg [2, 3] (.c (.q 2 [] (.mv (.c (.slice none 0 0)))) (.c (.q 3 [] (.mv (.c (.bool false)))) .nil))) .ret) .skip)
theorem u_iHuntBells_1 (P : Program) (k : KT) (e : Env) (w : World) : vcK P t_iHuntBells_1 k e w = vcK P (.cond (.t 6) (.seq (.reg [2, 3] (.c (.q 2 [] (.mv (.c (.slice none 0 0)))) (.c (.q 3 [] (.mv (.c (.bool false)))) .nil))) .ret) .skip) k e w := rfl
def t_iHuntBells_2 : X := (.seq (.drw [2, 3] (.c (.q 7 [] (.fa 1 (.t 1))) (.c (.q 8 [] (.ld (.t 7))) (.c (.q 9 [] (.lda 3 (.t 1))) (.c (.e (some 10) [] (.call false 190 [(.t 9)])) (.c (.e (some 11) [] (.bsl 9 1 [(.t 10)])) (.c (.e (some 12) [] (.call false 189 [(.t 8), (.t 11)])) (.c (.q 2 [] (.mv (.t 12))) (.c (.q 3 [] (.mv (.c (.bool true)))) .nil))))))))) .ret)
theorem u_iHuntBells_2 (P : Program) (k : KT) (e : Env) (w : World) : vcK P t_iHuntBells_2 k e w = vcK P (.seq (.drw [2, 3] (.c (.q 7 [] (.fa 1 (.t 1))) (.c (.q 8 [] (.ld (.t 7))) (.c (.q 9 [] (.lda 3 (.t 1))) (.c (.e (some 10) [] (.call false 190 [(.t 9)])) (.c (.e (some 11) [] (.bsl 9 1 [(.t 10)])) (.c (.e (some 12) [] (.call false 189 [(.t 8), (.t 11)])) (.c (.q 2 [] (.mv (.t 12))) (.c (.q 3 [] (.mv (.c (.bool true)))) .nil))))))))) .ret) k e w := rfl
def t_iHuntBells_3 : X := (.seq (.seq (.reg [1, 6] (.c (.q 4 [] (.lda 3 (.t 1))) (.c (.e (some 5) [] (.call false 188 [(.t 4)])) (.c (.q 6 [] (.not (.t 5))) .nil)))) t_iHuntBells_1) t_iHuntBells_2)
theorem u_iHuntBells_3 (P : Program) (k : KT) (e : Env) (w : World) : vcK P t_iHuntBells_3 k e w = vcK P (.seq (.seq (.reg [1, 6] (.c (.q 4 [] (.lda 3 (.t 1))) (.c (.e (some 5) [] (.call false 188 [(.t 4)])) (.c (.q 6 [] (.not (.t 5))) .nil)))) t_iHuntBells_1) t_iHuntBells_2) k e w := rfl
def x_iHuntBells : X := (.seq (.reg [1] (.c (.e (some 1) [] (.box 58 (.t 0))) (.c (.q 2 [] (.mv (.c (.slice none 0 0)))) (.c (.q 3 [] (.mv (.c (.bool false)))) .nil)))) t_iHuntBells_3)
theorem u_iHuntBells (P : Program) (k : KT) (e : Env) (w : World) : vcK P x_iHuntBells k e w = vcK P (.seq (.reg [1] (.c (.e (some 1) [] (.box 58 (.t 0))) (.c (.q 2 [] (.mv (.c (.slice none 0 0)))) (.c (.q 3 [] (.mv (.c (.bool false)))) .nil)))) t_iHuntBells_3) k e w := rfl
def r_iHuntBells : List XO := [(.mv (.t 2)), (.mv (.t 3))]
theorem c_iHuntBells : convF Try.prog [145, 147, 148, 149, 158, 205, 206, 232, 234, 247, 248, 256, 261, 283, 284, 299, 300, 307] Try.f48 [([1], []), ([1, 6], []), ([2, 3], []), ([2, 3], [])] = some (x_iHuntBells, r_iHuntBells) := by kernel_rfl
def us_iHuntBells := And.intro @u_iHuntBells (And.intro @u_iHuntBells_1 (And.intro @u_iHuntBells_2 @u_iHuntBells_3))
def t_iStillBells_1 : X := (.cond (.t 6) (.seq (.reg [2, 3] (.c (.q 2 [] (.mv (.c (.slice none 0 0)))) (.c (.q 3 [] (.mv (.c (.bool false)))) .nil))) .ret) .skip)
theorem u_iStillBells_1 (P : Program) (k : KT) (e : Env) (w : World) : vcK P t_iStillBells_1 k e w = vcK P (.cond (.t 6) (.seq (.reg [2, 3] (.c (.q 2 [] (.mv (.c (.slice none 0 0)))) (.c (.q 3 [] (.mv (.c (.bool false)))) .nil))) .ret) .skip) k e w := rfl
def t_iStillBells_2 : X := (.seq (.drw [2, 3] (.c (.q 7 [] (.fa 1 (.t 1))) (.c (.q 8 [] (.ld (.t 7))) (.c (.q 9 [] (.fa 1 (.t 1))) (.c (.q 10 [] (.ld (.t 9))) (.c (.q 12 [] (.fa 2 (.t 1))) (.c (.q 13 [] (.ld (.t 12))) (.c (.e (some 11) [] (.call false 161 [(.t 10)])) (.c (.e (some 14) [] (.call false 193 [(.t 11), (.t 13)])) (.c (.e (some 15) [] (.call false 189 [(.t 8), (.t 14)])) (.c (.q 2 [] (.mv (.t 15))) (.c (.q 3 [] (.mv (.c (.bool true)))) .nil)))))))))))) .ret)
theorem u_iStillBells_2 (P : Program) (k : KT) (e : Env) (w : World) : vcK P t_iStillBells_2 k e w = vcK P (.seq (.drw [2, 3] (.c (.q 7 [] (.fa 1 (.t 1))) (.c (.q 8 [] (.ld (.t 7))) (.c (.q 9 [] (.fa 1 (.t 1))) (.c (.q 10 [] (.ld (.t 9))) (.c (.q 12 [] (.fa 2 (.t 1))) (.c (.q 13 [] (.ld (.t 12))) (.c (.e (some 11) [] (.call false 161 [(.t 10)])) (.c (.e (some 14) [] (.call false 193 [(.t 11), (.t 13)])) (.c (.e (some 15) [] (.call false 189 [(.t 8), (.t 14)])) (.c (.q 2 [] (.mv (.t 15))) (.c (.q 3 [] (.mv (.c (.bool true)))) .nil)))))))))))) .ret) k e w := rfl
def t_iStillBells_3 : X := (.seq (.seq (.reg [1, 6] (.c (.q 4 [] (.lda 3 (.t 1))) (.c (.e (some 5) [] (.call false 188 [(.t 4)])) (.c (.q 6 [] (.not (.t 5))) .nil)))) t_iStillBells_1) t_iStillBells_2)
theorem u_iStillBells_3 (P : Program) (k : KT) (e : Env) (w : World) : vcK P t_iStillBells_3 k e w = vcK P (.seq (.seq (.reg [1, 6] (.c (.q 4 [] (.lda 3 (.t 1))) (.c (.e (some 5) [] (.call false 188 [(.t 4)])) (.c (.q 6 [] (.not (.t 5))) .nil)))) t_iStillBells_1) t_iStillBells_2) k e w := rfl
def x_iStillBells : X := (.seq (.reg [1] (.c (.e (some 1) [] (.box 58 (.t 0))) (.c (.q 2 [] (.mv (.c (.slice none 0 0)))) (.c (.q 3 [] (.mv (.c (.bool false)))) .nil)))) t_iStillBells_3)
theorem u_iStillBells (P : Program) (k : KT) (e : Env) (w : World) : vcK P x_iStillBells k e w = vcK P (.seq (.reg [1] (.c (.e (some 1) [] (.box 58 (.t 0))) (.c (.q 2 [] (.mv (.c (.slice none 0 0)))) (.c (.q 3 [] (.mv (.c (.bool false)))) .nil)))) t_iStillBells_3) k e w := rfl
def r_iStillBells : List XO := [(.mv (.t 2)), (.mv (.t 3))]
theorem c_iStillBells : convF Try.prog [145, 147, 148, 149, 158, 205, 206, 232, 234, 247, 248, 256, 261, 283, 284, 299, 300, 307] Try.f50 [([1], []), ([1, 6], []), ([2, 3], []), ([2, 3], [])] = some (x_iStillBells, r_iStillBells) := by kernel_rfl
def us_iStillBells := And.intro @u_iStillBells (And.intro @u_iStillBells_1 (And.intro @u_iStillBells_2 @u_iStillBells_3))
def t_sl4Hunt_1 : X := (.cond (.t 11) .skip (.exit 0))
theorem u_sl4Hunt_1 (P : Program) (k : KT) (e : Env) (w : World) : vcK P t_sl4Hunt_1 k e w = vcK P (.cond (.t 11) .skip (.exit 0)) k e w := rfl
def t_sl4Hunt_2 : X := (.cond (.t 18) (.reg [1, 3, 4, 5] (.c (.q 19 [] (.mv (.t 3))) (.c (.q 20 [] (.mv (.t 5))) (.c (.e (some 21) [] (.bsl 3 1 [(.t 20)])) (.c (.e (some 22) [] (.app 28 3 1 8 [(.int .i64 0)] 28 (.t 19) (.t 21))) (.c (.q 3 [] (.mv (.t 22))) .nil)))))) .skip)
theorem u_sl4Hunt_2 (P : Program) (k : KT) (e : Env) (w : World) : vcK P t_sl4Hunt_2 k e w = vcK P (.cond (.t 18) (.reg [1, 3, 4, 5] (.c (.q 19 [] (.mv (.t 3))) (.c (.q 20 [] (.mv (.t 5))) (.c (.e (some 21) [] (.bsl 3 1 [(.t 20)])) (.c (.e (some 22) [] (.app 28 3 1 8 [(.int .i64 0)] 28 (.t 19) (.t 21))) (.c (.q 3 [] (.mv (.t 22))) .nil)))))) .skip) k e w := rfl
def t_sl4Hunt_3 : X := (.reg [1, 3, 4, 5] (.c (.q 12 [] (.mv (.t 5))) (.c (.q 13 [] (.bin .add (.t 12) (.c (.int .i64 1)))) (.c (.q 5 [] (.mv (.t 13))) .nil))))
theorem u_sl4Hunt_3 (P : Program) (k : KT) (e : Env) (w : World) : vcK P t_sl4Hunt_3 k e w = vcK P (.reg [1, 3, 4, 5] (.c (.q 12 [] (.mv (.t 5))) (.c (.q 13 [] (.bin .add (.t 12) (.c (.int .i64 1)))) (.c (.q 5 [] (.mv (.t 13))) .nil)))) k e w := rfl
def t_sl4Hunt_4 : X := (.seq (.blk 1 (.seq (.reg [1, 3, 4, 5, 18] (.c (.q 14 [] (.mv (.t 4))) (.c (.q 15 [] (.mv (.t 5))) (.c (.e (some 16) [] (.call false 195 [(.t 14), (.t 15)])) (.c (.q 17 [] (.mv (.t 5))) (.c (.q 18 [] (.bin .eql (.t 16) (.t 17))) .nil)))))) t_sl4Hunt_2)) t_sl4Hunt_3)
theorem u_sl4Hunt_4 (P : Program) (k : KT) (e : Env) (w : World) : vcK P t_sl4Hunt_4 k e w = vcK P (.seq (.blk 1 (.seq (.reg [1, 3, 4, 5, 18] (.c (.q 14 [] (.mv (.t 4))) (.c (.q 15 [] (.mv (.t 5))) (.c (.e (some 16) [] (.call false 195 [(.t 14), (.t 15)])) (.c (.q 17 [] (.mv (.t 5))) (.c (.q 18 [] (.bin .eql (.t 16) (.t 17))) .nil)))))) t_sl4Hunt_2)) t_sl4Hunt_3) k e w := rfl
def t_sl4Hunt_5 : X := (.seq (.seq (.reg [1, 3, 4, 5, 11] (.c (.q 8 [] (.mv (.t 5))) (.c (.q 9 [] (.fa 1 (.t 1))) (.c (.q 10 [] (.ld (.t 9))) (.c (.q 11 [] (.bin .leq (.t 8) (.t 10))) .nil))))) t_sl4Hunt_1) t_sl4Hunt_4)
theorem u_sl4Hunt_5 (P : Program) (k : KT) (e : Env) (w : World) : vcK P t_sl4Hunt_5 k e w = vcK P (.seq (.seq (.reg [1, 3, 4, 5, 11] (.c (.q 8 [] (.mv (.t 5))) (.c (.q 9 [] (.fa 1 (.t 1))) (.c (.q 10 [] (.ld (.t 9))) (.c (.q 11 [] (.bin .leq (.t 8) (.t 10))) .nil))))) t_sl4Hunt_1) t_sl4Hunt_4) k e w := rfl
def t_sl4Hunt_6 : X := (.blk 0 (.loop [3, 5] [1, 4] t_sl4Hunt_5))
theorem u_sl4Hunt_6 (P : Program) (k : KT) (e : Env) (w : World) : vcK P t_sl4Hunt_6 k e w = vcK P (.blk 0 (.loop [3, 5] [1, 4] t_sl4Hunt_5)) k e w := rfl
def t_sl4Hunt_7 : X := (.seq (.reg [2] (.c (.q 23 [] (.mv (.t 3))) (.c (.q 2 [] (.mv (.t 23))) .nil))) .ret)
theorem u_sl4Hunt_7 (P : Program) (k : KT) (e : Env) (w : World) : vcK P t_sl4Hunt_7 k e w = vcK P (.seq (.reg [2] (.c (.q 23 [] (.mv (.t 3))) (.c (.q 2 [] (.mv (.t 23))) .nil))) .ret) k e w := rfl
def t_sl4Hunt_8 : X := (.seq (.seq (.reg [1, 3, 4, 5] (.c (.q 5 [] (.mv (.c (.int .i64 1)))) .nil)) t_sl4Hunt_6) t_sl4Hunt_7)
theorem u_sl4Hunt_8 (P : Program) (k : KT) (e : Env) (w : World) : vcK P t_sl4Hunt_8 k e w = vcK P (.seq (.seq (.reg [1, 3, 4, 5] (.c (.q 5 [] (.mv (.c (.int .i64 1)))) .nil)) t_sl4Hunt_6) t_sl4Hunt_7) k e w := rfl
def t_sl4Hunt_9 : X := (.seq (.reg [1, 3, 4] (.c (.q 6 [] (.lda 3 (.t 1))) (.c (.e (some 7) [] (.call false 199 [(.t 6)])) (.c (.q 4 [] (.mv (.t 7))) .nil)))) t_sl4Hunt_8)
theorem u_sl4Hunt_9 (P : Program) (k : KT) (e : Env) (w : World) : vcK P t_sl4Hunt_9 k e w = vcK P (.seq (.reg [1, 3, 4] (.c (.q 6 [] (.lda 3 (.t 1))) (.c (.e (some 7) [] (.call false 199 [(.t 6)])) (.c (.q 4 [] (.mv (.t 7))) .nil)))) t_sl4Hunt_8) k e w := rfl
def t_sl4Hunt_10 : X := (.seq (.reg [1, 3] (.c (.q 3 [] (.mv (.c (.slice none 0 0)))) .nil)) t_sl4Hunt_9)
theorem u_sl4Hunt_10 (P : Program) (k : KT) (e : Env) (w : World) : vcK P t_sl4Hunt_10 k e w = vcK P (.seq (.reg [1, 3] (.c (.q 3 [] (.mv (.c (.slice none 0 0)))) .nil)) t_sl4Hunt_9) k e w := rfl
def x_sl4Hunt : X := (.seq (.reg [1] (.c (.e (some 1) [] (.box 58 (.t 0))) (.c (.q 2 [] (.mv (.c (.slice none 0 0)))) .nil))) t_sl4Hunt_10)
theorem u_sl4Hunt (P : Program) (k : KT) (e : Env) (w : World) : vcK P x_sl4Hunt k e w = vcK P (.seq (.reg [1] (.c (.e (some 1) [] (.box 58 (.t 0))) (.c (.q 2 [] (.mv (.c (.slice none 0 0)))) .nil))) t_sl4Hunt_10) k e w := rfl
def r_sl4Hunt : List XO := [(.mv (.t 2))]
theorem c_sl4Hunt : convF Try.prog [145, 147, 148, 149, 158, 205, 206, 232, 234, 247, 248, 256, 261, 283, 284, 299, 300, 307] Try.f192 [([1], []), ([1, 3], []), ([1, 3, 4], []), ([1, 3, 4, 5], []), ([3, 5], [1, 4]), ([1, 3, 4, 5, 11], []), ([1, 3, 4, 5, 18], []), ([1, 3, 4, 5], []), ([1, 3, 4, 5], []), ([2], [])] = some (x_sl4Hunt, r_sl4Hunt) := by kernel_rfl
def us_sl4Hunt := And.intro @u_sl4Hunt (And.intro @u_sl4Hunt_1 (And.intro @u_sl4Hunt_2 (And.intro @u_sl4Hunt_3 (And.intro @u_sl4Hunt_4 (And.intro @u_sl4Hunt_5 (And.intro @u_sl4Hunt_6 (And.intro @u_sl4Hunt_7 (And.intro @u_sl4Hunt_8 (And.intro @u_sl4Hunt_9 @u_sl4Hunt_10)))))))))
def t_sHuntBells_1 : X := (.cond (.t 6) (.seq (.reg [2, 3] (.c (.q 2 [] (.mv (.c (.slice none 0 0)))) (.c (.q 3 [] (.mv (.c (.bool false)))) .nil))) .ret) .skip)
theorem u_sHuntBells_1 (P : Program) (k : KT) (e : Env) (w : World) : vcK P t_sHuntBells_1 k e w = vcK P (.cond (.t 6) (.seq (.reg [2, 3] (.c (.q 2 [] (.mv (.c (.slice none 0 0)))) (.c (.q 3 [] (.mv (.c (.bool false)))) .nil))) .ret) .skip) k e w := rfl
def t_sHuntBells_2 : X := (.seq (.reg [2, 3] (.c (.q 7 [] (.lda 3 (.t 1))) (.c (.e (some 8) [] (.call false 192 [(.t 7)])) (.c (.q 2 [] (.mv (.t 8))) (.c (.q 3 [] (.mv (.c (.bool true)))) .nil))))) .ret)
theorem u_sHuntBells_2 (P : Program) (k : KT) (e : Env) (w : World) : vcK P t_sHuntBells_2 k e w = vcK P (.seq (.reg [2, 3] (.c (.q 7 [] (.lda 3 (.t 1))) (.c (.e (some 8) [] (.call false 192 [(.t 7)])) (.c (.q 2 [] (.mv (.t 8))) (.c (.q 3 [] (.mv (.c (.bool true)))) .nil))))) .ret) k e w := rfl
def t_sHuntBells_3 : X := (.seq (.seq (.reg [1, 6] (.c (.q 4 [] (.lda 3 (.t 1))) (.c (.e (some 5) [] (.call false 191 [(.t 4)])) (.c (.q 6 [] (.not (.t 5))) .nil)))) t_sHuntBells_1) t_sHuntBells_2)
theorem u_sHuntBells_3 (P : Program) (k : KT) (e : Env) (w : World) : vcK P t_sHuntBells_3 k e w = vcK P (.seq (.seq (.reg [1, 6] (.c (.q 4 [] (.lda 3 (.t 1))) (.c (.e (some 5) [] (.call false 191 [(.t 4)])) (.c (.q 6 [] (.not (.t 5))) .nil)))) t_sHuntBells_1) t_sHuntBells_2) k e w := rfl
def x_sHuntBells : X := (.seq (.reg [1] (.c (.e (some 1) [] (.box 58 (.t 0))) (.c (.q 2 [] (.mv (.c (.slice none 0 0)))) (.c (.q 3 [] (.mv (.c (.bool false)))) .nil)))) t_sHuntBells_3)
theorem u_sHuntBells (P : Program) (k : KT) (e : Env) (w : World) : vcK P x_sHuntBells k e w = vcK P (.seq (.reg [1] (.c (.e (some 1) [] (.box 58 (.t 0))) (.c (.q 2 [] (.mv (.c (.slice none 0 0)))) (.c (.q 3 [] (.mv (.c (.bool false)))) .nil)))) t_sHuntBells_3) k e w := rfl
def r_sHuntBells : List XO := [(.mv (.t 2)), (.mv (.t 3))]
theorem c_sHuntBells : convF Try.prog [145, 147, 148, 149, 158, 205, 206, 232, 234, 247, 248, 256, 261, 283, 284, 299, 300, 307] Try.f49 [([1], []), ([1, 6], []), ([2, 3], []), ([2, 3], [])] = some (x_sHuntBells, r_sHuntBells) := by kernel_rfl
def us_sHuntBells := And.intro @u_sHuntBells (And.intro @u_sHuntBells_1 (And.intro @u_sHuntBells_2 @u_sHuntBells_3))
def t_sStillBells_1 : X := (.cond (.t 13) (.seq (.reg [2, 3] (.c (.q 2 [] (.mv (.c (.slice none 0 0)))) (.c (.q 3 [] (.mv (.c (.bool false)))) .nil))) .ret) .skip)
theorem u_sStillBells_1 (P : Program) (k : KT) (e : Env) (w : World) : vcK P t_sStillBells_1 k e w = vcK P (.cond (.t 13) (.seq (.reg [2, 3] (.c (.q 2 [] (.mv (.c (.slice none 0 0)))) (.c (.q 3 [] (.mv (.c (.bool false)))) .nil))) .ret) .skip) k e w := rfl
def t_sStillBells_2 : X := (.cond (.t 26) .skip (.exit 0))
theorem u_sStillBells_2 (P : Program) (k : KT) (e : Env) (w : World) : vcK P t_sStillBells_2 k e w = vcK P (.cond (.t 26) .skip (.exit 0)) k e w := rfl
def t_sStillBells_3 : X := (.reg [1, 4, 5, 6, 7, 8, 32, 33, 34] (.c (.q 38 [] (.mv (.t 8))) (.c (.q 39 [] (.mv (.t 38))) (.c (.q 40 [(39, true)] (.mv (.t 10))) (.c (.q 41 [(39, true)] (.mv (.t 7))) (.c (.e (some 42) [(39, true)] (.call false 195 [(.t 40), (.t 41)])) (.c (.q 43 [(39, true)] (.mv (.t 7))) (.c (.q 44 [(39, true)] (.bin .eql (.t 42) (.t 43))) (.c (.q 45 [] (.pick (.t 39) (.t 44) (.c (.bool false)))) (.c (.q 8 [] (.mv (.t 45))) .nil))))))))))
theorem u_sStillBells_3 (P : Program) (k : KT) (e : Env) (w : World) : vcK P t_sStillBells_3 k e w = vcK P (.reg [1, 4, 5, 6, 7, 8, 32, 33, 34] (.c (.q 38 [] (.mv (.t 8))) (.c (.q 39 [] (.mv (.t 38))) (.c (.q 40 [(39, true)] (.mv (.t 10))) (.c (.q 41 [(39, true)] (.mv (.t 7))) (.c (.e (some 42) [(39, true)] (.call false 195 [(.t 40), (.t 41)])) (.c (.q 43 [(39, true)] (.mv (.t 7))) (.c (.q 44 [(39, true)] (.bin .eql (.t 42) (.t 43))) (.c (.q 45 [] (.pick (.t 39) (.t 44) (.c (.bool false)))) (.c (.q 8 [] (.mv (.t 45))) .nil)))))))))) k e w := rfl
def t_sStillBells_4 : X := (.reg [1, 4, 5, 6, 7, 8, 32, 33, 34] (.c (.q 46 [] (.bin .add (.t 34) (.c (.int .i64 1)))) (.c (.q 34 [] (.mv (.t 46))) .nil)))
theorem u_sStillBells_4 (P : Program) (k : KT) (e : Env) (w : World) : vcK P t_sStillBells_4 k e w = vcK P (.reg [1, 4, 5, 6, 7, 8, 32, 33, 34] (.c (.q 46 [] (.bin .add (.t 34) (.c (.int .i64 1)))) (.c (.q 34 [] (.mv (.t 46))) .nil))) k e w := rfl
def t_sStillBells_5 : X := (.seq (.blk 3 (.seq (.reg [1, 4, 5, 6, 7, 8, 10, 32, 33, 34] (.c (.q 36 [] (.ia 1 (.t 32) (.t 34))) (.c (.q 37 [] (.ld (.t 36))) (.c (.q 10 [] (.mv (.t 37))) .nil)))) t_sStillBells_3)) t_sStillBells_4)
theorem u_sStillBells_5 (P : Program) (k : KT) (e : Env) (w : World) : vcK P t_sStillBells_5 k e w = vcK P (.seq (.blk 3 (.seq (.reg [1, 4, 5, 6, 7, 8, 10, 32, 33, 34] (.c (.q 36 [] (.ia 1 (.t 32) (.t 34))) (.c (.q 37 [] (.ld (.t 36))) (.c (.q 10 [] (.mv (.t 37))) .nil)))) t_sStillBells_3)) t_sStillBells_4) k e w := rfl
def t_sStillBells_6 : X := (.seq (.cond (.t 35) .skip (.exit 2)) t_sStillBells_5)
theorem u_sStillBells_6 (P : Program) (k : KT) (e : Env) (w : World) : vcK P t_sStillBells_6 k e w = vcK P (.seq (.cond (.t 35) .skip (.exit 2)) t_sStillBells_5) k e w := rfl
def t_sStillBells_7 : X := (.seq (.reg [1, 4, 5, 6, 7, 8, 32, 33, 34, 35] (.c (.q 35 [] (.bin .lss (.t 34) (.t 33))) .nil)) t_sStillBells_6)
theorem u_sStillBells_7 (P : Program) (k : KT) (e : Env) (w : World) : vcK P t_sStillBells_7 k e w = vcK P (.seq (.reg [1, 4, 5, 6, 7, 8, 32, 33, 34, 35] (.c (.q 35 [] (.bin .lss (.t 34) (.t 33))) .nil)) t_sStillBells_6) k e w := rfl
def t_sStillBells_8 : X := (.blk 2 (.loop [8, 34] [1, 4, 5, 6, 7, 32, 33] t_sStillBells_7))
theorem u_sStillBells_8 (P : Program) (k : KT) (e : Env) (w : World) : vcK P t_sStillBells_8 k e w = vcK P (.blk 2 (.loop [8, 34] [1, 4, 5, 6, 7, 32, 33] t_sStillBells_7)) k e w := rfl
def t_sStillBells_9 : X := (.cond (.t 47) (.reg [1, 4, 5, 6, 7] (.c (.q 48 [] (.mv (.t 4))) (.c (.q 49 [] (.mv (.t 7))) (.c (.e (some 50) [] (.bsl 3 1 [(.t 49)])) (.c (.e (some 51) [] (.app 28 3 1 8 [(.int .i64 0)] 28 (.t 48) (.t 50))) (.c (.q 4 [] (.mv (.t 51))) .nil)))))) .skip)
theorem u_sStillBells_9 (P : Program) (k : KT) (e : Env) (w : World) : vcK P t_sStillBells_9 k e w = vcK P (.cond (.t 47) (.reg [1, 4, 5, 6, 7] (.c (.q 48 [] (.mv (.t 4))) (.c (.q 49 [] (.mv (.t 7))) (.c (.e (some 50) [] (.bsl 3 1 [(.t 49)])) (.c (.e (some 51) [] (.app 28 3 1 8 [(.int .i64 0)] 28 (.t 48) (.t 50))) (.c (.q 4 [] (.mv (.t 51))) .nil)))))) .skip) k e w := rfl
def t_sStillBells_10 : X := (.seq (.reg [1, 4, 5, 6, 7, 47] (.c (.q 47 [] (.mv (.t 8))) .nil)) t_sStillBells_9)
theorem u_sStillBells_10 (P : Program) (k : KT) (e : Env) (w : World) : vcK P t_sStillBells_10 k e w = vcK P (.seq (.reg [1, 4, 5, 6, 7, 47] (.c (.q 47 [] (.mv (.t 8))) .nil)) t_sStillBells_9) k e w := rfl
def t_sStillBells_11 : X := (.seq (.seq (.reg [1, 4, 5, 6, 7, 8, 32, 33, 34] (.c (.q 29 [] (.mv (.t 5))) (.c (.q 30 [] (.mv (.t 6))) (.c (.e (some 31) [] (.bsl 9 1 [(.t 30)])) (.c (.e (some 32) [] (.app 42 9 1 16 [(S [])] 42 (.t 29) (.t 31))) (.c (.q 33 [] (.lens (.t 32))) (.c (.q 34 [] (.mv (.c (.int .i64 0)))) .nil))))))) t_sStillBells_8) t_sStillBells_10)
theorem u_sStillBells_11 (P : Program) (k : KT) (e : Env) (w : World) : vcK P t_sStillBells_11 k e w = vcK P (.seq (.seq (.reg [1, 4, 5, 6, 7, 8, 32, 33, 34] (.c (.q 29 [] (.mv (.t 5))) (.c (.q 30 [] (.mv (.t 6))) (.c (.e (some 31) [] (.bsl 9 1 [(.t 30)])) (.c (.e (some 32) [] (.app 42 9 1 16 [(S [])] 42 (.t 29) (.t 31))) (.c (.q 33 [] (.lens (.t 32))) (.c (.q 34 [] (.mv (.c (.int .i64 0)))) .nil))))))) t_sStillBells_8) t_sStillBells_10) k e w := rfl
def t_sStillBells_12 : X := (.reg [1, 4, 5, 6, 7] (.c (.q 27 [] (.mv (.t 7))) (.c (.q 28 [] (.bin .add (.t 27) (.c (.int .i64 1)))) (.c (.q 7 [] (.mv (.t 28))) .nil))))
theorem u_sStillBells_12 (P : Program) (k : KT) (e : Env) (w : World) : vcK P t_sStillBells_12 k e w = vcK P (.reg [1, 4, 5, 6, 7] (.c (.q 27 [] (.mv (.t 7))) (.c (.q 28 [] (.bin .add (.t 27) (.c (.int .i64 1)))) (.c (.q 7 [] (.mv (.t 28))) .nil)))) k e w := rfl
def t_sStillBells_13 : X := (.seq (.blk 1 (.seq (.reg [1, 4, 5, 6, 7, 8] (.c (.q 8 [] (.mv (.c (.bool true)))) .nil)) t_sStillBells_11)) t_sStillBells_12)
theorem u_sStillBells_13 (P : Program) (k : KT) (e : Env) (w : World) : vcK P t_sStillBells_13 k e w = vcK P (.seq (.blk 1 (.seq (.reg [1, 4, 5, 6, 7, 8] (.c (.q 8 [] (.mv (.c (.bool true)))) .nil)) t_sStillBells_11)) t_sStillBells_12) k e w := rfl
def t_sStillBells_14 : X := (.seq (.seq (.reg [1, 4, 5, 6, 7, 26] (.c (.q 23 [] (.mv (.t 7))) (.c (.q 24 [] (.fa 1 (.t 1))) (.c (.q 25 [] (.ld (.t 24))) (.c (.q 26 [] (.bin .leq (.t 23) (.t 25))) .nil))))) t_sStillBells_2) t_sStillBells_13)
theorem u_sStillBells_14 (P : Program) (k : KT) (e : Env) (w : World) : vcK P t_sStillBells_14 k e w = vcK P (.seq (.seq (.reg [1, 4, 5, 6, 7, 26] (.c (.q 23 [] (.mv (.t 7))) (.c (.q 24 [] (.fa 1 (.t 1))) (.c (.q 25 [] (.ld (.t 24))) (.c (.q 26 [] (.bin .leq (.t 23) (.t 25))) .nil))))) t_sStillBells_2) t_sStillBells_13) k e w := rfl
def t_sStillBells_15 : X := (.blk 0 (.loop [4, 7] [1, 5, 6] t_sStillBells_14))
theorem u_sStillBells_15 (P : Program) (k : KT) (e : Env) (w : World) : vcK P t_sStillBells_15 k e w = vcK P (.blk 0 (.loop [4, 7] [1, 5, 6] t_sStillBells_14)) k e w := rfl
def t_sStillBells_16 : X := (.seq (.reg [2, 3] (.c (.q 52 [] (.mv (.t 4))) (.c (.q 2 [] (.mv (.t 52))) (.c (.q 3 [] (.mv (.c (.bool true)))) .nil)))) .ret)
theorem u_sStillBells_16 (P : Program) (k : KT) (e : Env) (w : World) : vcK P t_sStillBells_16 k e w = vcK P (.seq (.reg [2, 3] (.c (.q 52 [] (.mv (.t 4))) (.c (.q 2 [] (.mv (.t 52))) (.c (.q 3 [] (.mv (.c (.bool true)))) .nil)))) .ret) k e w := rfl
def t_sStillBells_17 : X := (.seq (.seq (.reg [1, 4, 5, 6, 7] (.c (.q 7 [] (.mv (.c (.int .i64 1)))) .nil)) t_sStillBells_15) t_sStillBells_16)
theorem u_sStillBells_17 (P : Program) (k : KT) (e : Env) (w : World) : vcK P t_sStillBells_17 k e w = vcK P (.seq (.seq (.reg [1, 4, 5, 6, 7] (.c (.q 7 [] (.mv (.c (.int .i64 1)))) .nil)) t_sStillBells_15) t_sStillBells_16) k e w := rfl
def t_sStillBells_18 : X := (.seq (.drw [1, 4, 5, 6] (.c (.q 15 [] (.fa 2 (.t 1))) (.c (.q 16 [] (.ld (.t 15))) (.c (.q 17 [] (.fa 1 (.t 1))) (.c (.q 18 [] (.ld (.t 17))) (.c (.e (some 19) [] (.call false 180 [(.t 18)])) (.c (.e (some 20) [] (.call false 194 [(.t 16), (.t 19)])) (.c (.q 14 [] (.mv (.t 20))) (.c (.q 21 [] (.ext 0 (.t 14))) (.c (.q 22 [] (.ext 1 (.t 14))) (.c (.q 5 [] (.mv (.t 21))) (.c (.q 6 [] (.mv (.t 22))) .nil)))))))))))) t_sStillBells_17)
theorem u_sStillBells_18 (P : Program) (k : KT) (e : Env) (w : World) : vcK P t_sStillBells_18 k e w = vcK P (.seq (.drw [1, 4, 5, 6] (.c (.q 15 [] (.fa 2 (.t 1))) (.c (.q 16 [] (.ld (.t 15))) (.c (.q 17 [] (.fa 1 (.t 1))) (.c (.q 18 [] (.ld (.t 17))) (.c (.e (some 19) [] (.call false 180 [(.t 18)])) (.c (.e (some 20) [] (.call false 194 [(.t 16), (.t 19)])) (.c (.q 14 [] (.mv (.t 20))) (.c (.q 21 [] (.ext 0 (.t 14))) (.c (.q 22 [] (.ext 1 (.t 14))) (.c (.q 5 [] (.mv (.t 21))) (.c (.q 6 [] (.mv (.t 22))) .nil)))))))))))) t_sStillBells_17) k e w := rfl
def t_sStillBells_19 : X := (.seq (.reg [1, 4] (.c (.q 4 [] (.mv (.c (.slice none 0 0)))) .nil)) t_sStillBells_18)
theorem u_sStillBells_19 (P : Program) (k : KT) (e : Env) (w : World) : vcK P t_sStillBells_19 k e w = vcK P (.seq (.reg [1, 4] (.c (.q 4 [] (.mv (.c (.slice none 0 0)))) .nil)) t_sStillBells_18) k e w := rfl
def t_sStillBells_20 : X := (.seq (.seq (.reg [1, 13] (.c (.q 11 [] (.lda 3 (.t 1))) (.c (.e (some 12) [] (.call false 191 [(.t 11)])) (.c (.q 13 [] (.not (.t 12))) .nil)))) t_sStillBells_1) t_sStillBells_19)
theorem u_sStillBells_20 (P : Program) (k : KT) (e : Env) (w : World) : vcK P t_sStillBells_20 k e w = vcK P (.seq (.seq (.reg [1, 13] (.c (.q 11 [] (.lda 3 (.t 1))) (.c (.e (some 12) [] (.call false 191 [(.t 11)])) (.c (.q 13 [] (.not (.t 12))) .nil)))) t_sStillBells_1) t_sStillBells_19) k e w := rfl
def x_sStillBells : X := (.seq (.reg [1] (.c (.e (some 1) [] (.box 58 (.t 0))) (.c (.q 2 [] (.mv (.c (.slice none 0 0)))) (.c (.q 3 [] (.mv (.c (.bool false)))) .nil)))) t_sStillBells_20)
theorem u_sStillBells (P : Program) (k : KT) (e : Env) (w : World) : vcK P x_sStillBells k e w = vcK P (.seq (.reg [1] (.c (.e (some 1) [] (.box 58 (.t 0))) (.c (.q 2 [] (.mv (.c (.slice none 0 0)))) (.c (.q 3 [] (.mv (.c (.bool false)))) .nil)))) t_sStillBells_20) k e w := rfl
def r_sStillBells : List XO := [(.mv (.t 2)), (.mv (.t 3))]
theorem c_sStillBells : convF Try.prog [145, 147, 148, 149, 158, 205, 206, 232, 234, 247, 248, 256, 261, 283, 284, 299, 300, 307] Try.f51 [([1], []), ([1, 13], []), ([2, 3], []), ([1, 4], []), ([1, 4, 5, 6], []), ([1, 4, 5, 6, 7], []), ([4, 7], [1, 5, 6]), ([1, 4, 5, 6, 7, 26], []), ([1, 4, 5, 6, 7, 8], []), ([1, 4, 5, 6, 7, 8, 32, 33, 34], []), ([8, 34], [1, 4, 5, 6, 7, 32, 33]), ([1, 4, 5, 6, 7, 8, 32, 33, 34, 35], []), ([1, 4, 5, 6, 7, 8, 10, 32, 33, 34], []), ([1, 4, 5, 6, 7, 8, 32, 33, 34], []), ([1, 4, 5, 6, 7, 8, 32, 33, 34], []), ([1, 4, 5, 6, 7, 47], []), ([1, 4, 5, 6, 7], []), ([1, 4, 5, 6, 7], []), ([2, 3], [])] = some (x_sStillBells, r_sStillBells) := by kernel_rfl
def us_sStillBells := And.intro @u_sStillBells (And.intro @u_sStillBells_1 (And.intro @u_sStillBells_2 (And.intro @u_sStillBells_3 (And.intro @u_sStillBells_4 (And.intro @u_sStillBells_5 (And.intro @u_sStillBells_6 (And.intro @u_sStillBells_7 (And.intro @u_sStillBells_8 (And.intro @u_sStillBells_9 (And.intro @u_sStillBells_10 (And.intro @u_sStillBells_11 (And.intro @u_sStillBells_12 (And.intro @u_sStillBells_13 (And.intro @u_sStillBells_14 (And.intro @u_sStillBells_15 (And.intro @u_sStillBells_16 (And.intro @u_sStillBells_17 (And.intro @u_sStillBells_18 (And.intro @u_sStillBells_19 @u_sStillBells_20)))))))))))))))))))
def t_lhas_1 : X := (.cond (.t 15) (.seq (.reg [4] (.c (.q 4 [] (.mv (.c (.bool true)))) .nil)) .ret) .skip)
theorem u_lhas_1 (P : Program) (k : KT) (e : Env) (w : World) : vcK P t_lhas_1 k e w = vcK P (.cond (.t 15) (.seq (.reg [4] (.c (.q 4 [] (.mv (.c (.bool true)))) .nil)) .ret) .skip) k e w := rfl
def t_lhas_2 : X := (.seq (.reg [1, 7, 8, 9, 15] (.c (.q 13 [] (.mv (.t 6))) (.c (.q 14 [] (.mv (.t 1))) (.c (.q 15 [] (.bin .eql (.t 13) (.t 14))) .nil)))) t_lhas_1)
theorem u_lhas_2 (P : Program) (k : KT) (e : Env) (w : World) : vcK P t_lhas_2 k e w = vcK P (.seq (.reg [1, 7, 8, 9, 15] (.c (.q 13 [] (.mv (.t 6))) (.c (.q 14 [] (.mv (.t 1))) (.c (.q 15 [] (.bin .eql (.t 13) (.t 14))) .nil)))) t_lhas_1) k e w := rfl
def t_lhas_3 : X := (.reg [1, 7, 8, 9] (.c (.q 16 [] (.bin .add (.t 9) (.c (.int .i64 1)))) (.c (.q 9 [] (.mv (.t 16))) .nil)))
theorem u_lhas_3 (P : Program) (k : KT) (e : Env) (w : World) : vcK P t_lhas_3 k e w = vcK P (.reg [1, 7, 8, 9] (.c (.q 16 [] (.bin .add (.t 9) (.c (.int .i64 1)))) (.c (.q 9 [] (.mv (.t 16))) .nil))) k e w := rfl
def t_lhas_4 : X := (.seq (.blk 1 (.seq (.reg [1, 6, 7, 8, 9] (.c (.q 11 [] (.ia 1 (.t 7) (.t 9))) (.c (.q 12 [] (.ld (.t 11))) (.c (.q 6 [] (.mv (.t 12))) .nil)))) t_lhas_2)) t_lhas_3)
theorem u_lhas_4 (P : Program) (k : KT) (e : Env) (w : World) : vcK P t_lhas_4 k e w = vcK P (.seq (.blk 1 (.seq (.reg [1, 6, 7, 8, 9] (.c (.q 11 [] (.ia 1 (.t 7) (.t 9))) (.c (.q 12 [] (.ld (.t 11))) (.c (.q 6 [] (.mv (.t 12))) .nil)))) t_lhas_2)) t_lhas_3) k e w := rfl
def t_lhas_5 : X := (.seq (.cond (.t 10) .skip (.exit 0)) t_lhas_4)
theorem u_lhas_5 (P : Program) (k : KT) (e : Env) (w : World) : vcK P t_lhas_5 k e w = vcK P (.seq (.cond (.t 10) .skip (.exit 0)) t_lhas_4) k e w := rfl
def t_lhas_6 : X := (.seq (.reg [1, 7, 8, 9, 10] (.c (.q 10 [] (.bin .lss (.t 9) (.t 8))) .nil)) t_lhas_5)
theorem u_lhas_6 (P : Program) (k : KT) (e : Env) (w : World) : vcK P t_lhas_6 k e w = vcK P (.seq (.reg [1, 7, 8, 9, 10] (.c (.q 10 [] (.bin .lss (.t 9) (.t 8))) .nil)) t_lhas_5) k e w := rfl
def t_lhas_7 : X := (.blk 0 (.loop [9] [1, 7, 8] t_lhas_6))
theorem u_lhas_7 (P : Program) (k : KT) (e : Env) (w : World) : vcK P t_lhas_7 k e w = vcK P (.blk 0 (.loop [9] [1, 7, 8] t_lhas_6)) k e w := rfl
def t_lhas_8 : X := (.seq (.reg [4] (.c (.q 4 [] (.mv (.c (.bool false)))) .nil)) .ret)
theorem u_lhas_8 (P : Program) (k : KT) (e : Env) (w : World) : vcK P t_lhas_8 k e w = vcK P (.seq (.reg [4] (.c (.q 4 [] (.mv (.c (.bool false)))) .nil)) .ret) k e w := rfl
def t_lhas_9 : X := (.seq (.seq (.reg [1, 7, 8, 9] (.c (.q 7 [] (.mv (.t 0))) (.c (.q 8 [] (.lens (.t 7))) (.c (.q 9 [] (.mv (.c (.int .i64 0)))) .nil)))) t_lhas_7) t_lhas_8)
theorem u_lhas_9 (P : Program) (k : KT) (e : Env) (w : World) : vcK P t_lhas_9 k e w = vcK P (.seq (.seq (.reg [1, 7, 8, 9] (.c (.q 7 [] (.mv (.t 0))) (.c (.q 8 [] (.lens (.t 7))) (.c (.q 9 [] (.mv (.c (.int .i64 0)))) .nil)))) t_lhas_7) t_lhas_8) k e w := rfl
def x_lhas : X := (.seq (.reg [0, 1] (.c (.q 4 [] (.mv (.c (.bool false)))) .nil)) t_lhas_9)
theorem u_lhas (P : Program) (k : KT) (e : Env) (w : World) : vcK P x_lhas k e w = vcK P (.seq (.reg [0, 1] (.c (.q 4 [] (.mv (.c (.bool false)))) .nil)) t_lhas_9) k e w := rfl
def r_lhas : List XO := [(.mv (.t 4))]
theorem c_lhas : convF Try.prog [145, 147, 148, 149, 158, 205, 206, 232, 234, 247, 248, 256, 261, 283, 284, 299, 300, 307] Try.f55 [([0, 1], []), ([1, 7, 8, 9], []), ([9], [1, 7, 8]), ([1, 7, 8, 9, 10], []), ([1, 6, 7, 8, 9], []), ([1, 7, 8, 9, 15], []), ([4], []), ([1, 7, 8, 9], []), ([4], [])] = some (x_lhas, r_lhas) := by kernel_rfl
def us_lhas := And.intro @u_lhas (And.intro @u_lhas_1 (And.intro @u_lhas_2 (And.intro @u_lhas_3 (And.intro @u_lhas_4 (And.intro @u_lhas_5 (And.intro @u_lhas_6 (And.intro @u_lhas_7 (And.intro @u_lhas_8 @u_lhas_9))))))))
def t_lwithin_1 : X := (.cond (.t 16) (.seq (.reg [4] (.c (.q 4 [] (.mv (.c (.bool false)))) .nil)) .ret) .skip)
theorem u_lwithin_1 (P : Program) (k : KT) (e : Env) (w : World) : vcK P t_lwithin_1 k e w = vcK P (.cond (.t 16) (.seq (.reg [4] (.c (.q 4 [] (.mv (.c (.bool false)))) .nil)) .ret) .skip) k e w := rfl
def t_lwithin_2 : X := (.seq (.reg [1, 7, 8, 9, 16] (.c (.q 13 [] (.mv (.t 1))) (.c (.q 14 [] (.mv (.t 6))) (.c (.e (some 15) [] (.call false 55 [(.t 13), (.t 14)])) (.c (.q 16 [] (.not (.t 15))) .nil))))) t_lwithin_1)
theorem u_lwithin_2 (P : Program) (k : KT) (e : Env) (w : World) : vcK P t_lwithin_2 k e w = vcK P (.seq (.reg [1, 7, 8, 9, 16] (.c (.q 13 [] (.mv (.t 1))) (.c (.q 14 [] (.mv (.t 6))) (.c (.e (some 15) [] (.call false 55 [(.t 13), (.t 14)])) (.c (.q 16 [] (.not (.t 15))) .nil))))) t_lwithin_1) k e w := rfl
def t_lwithin_3 : X := (.reg [1, 7, 8, 9] (.c (.q 17 [] (.bin .add (.t 9) (.c (.int .i64 1)))) (.c (.q 9 [] (.mv (.t 17))) .nil)))
theorem u_lwithin_3 (P : Program) (k : KT) (e : Env) (w : World) : vcK P t_lwithin_3 k e w = vcK P (.reg [1, 7, 8, 9] (.c (.q 17 [] (.bin .add (.t 9) (.c (.int .i64 1)))) (.c (.q 9 [] (.mv (.t 17))) .nil))) k e w := rfl
def t_lwithin_4 : X := (.seq (.blk 1 (.seq (.reg [1, 6, 7, 8, 9] (.c (.q 11 [] (.ia 1 (.t 7) (.t 9))) (.c (.q 12 [] (.ld (.t 11))) (.c (.q 6 [] (.mv (.t 12))) .nil)))) t_lwithin_2)) t_lwithin_3)
theorem u_lwithin_4 (P : Program) (k : KT) (e : Env) (w : World) : vcK P t_lwithin_4 k e w = vcK P (.seq (.blk 1 (.seq (.reg [1, 6, 7, 8, 9] (.c (.q 11 [] (.ia 1 (.t 7) (.t 9))) (.c (.q 12 [] (.ld (.t 11))) (.c (.q 6 [] (.mv (.t 12))) .nil)))) t_lwithin_2)) t_lwithin_3) k e w := rfl
def t_lwithin_5 : X := (.seq (.cond (.t 10) .skip (.exit 0)) t_lwithin_4)
theorem u_lwithin_5 (P : Program) (k : KT) (e : Env) (w : World) : vcK P t_lwithin_5 k e w = vcK P (.seq (.cond (.t 10) .skip (.exit 0)) t_lwithin_4) k e w := rfl
def t_lwithin_6 : X := (.seq (.reg [1, 7, 8, 9, 10] (.c (.q 10 [] (.bin .lss (.t 9) (.t 8))) .nil)) t_lwithin_5)
theorem u_lwithin_6 (P : Program) (k : KT) (e : Env) (w : World) : vcK P t_lwithin_6 k e w = vcK P (.seq (.reg [1, 7, 8, 9, 10] (.c (.q 10 [] (.bin .lss (.t 9) (.t 8))) .nil)) t_lwithin_5) k e w := rfl
def t_lwithin_7 : X := (.blk 0 (.loop [9] [1, 7, 8] t_lwithin_6))
theorem u_lwithin_7 (P : Program) (k : KT) (e : Env) (w : World) : vcK P t_lwithin_7 k e w = vcK P (.blk 0 (.loop [9] [1, 7, 8] t_lwithin_6)) k e w := rfl
def t_lwithin_8 : X := (.seq (.reg [4] (.c (.q 4 [] (.mv (.c (.bool true)))) .nil)) .ret)
theorem u_lwithin_8 (P : Program) (k : KT) (e : Env) (w : World) : vcK P t_lwithin_8 k e w = vcK P (.seq (.reg [4] (.c (.q 4 [] (.mv (.c (.bool true)))) .nil)) .ret) k e w := rfl
def t_lwithin_9 : X := (.seq (.seq (.reg [1, 7, 8, 9] (.c (.q 7 [] (.mv (.t 0))) (.c (.q 8 [] (.lens (.t 7))) (.c (.q 9 [] (.mv (.c (.int .i64 0)))) .nil)))) t_lwithin_7) t_lwithin_8)
theorem u_lwithin_9 (P : Program) (k : KT) (e : Env) (w : World) : vcK P t_lwithin_9 k e w = vcK P (.seq (.seq (.reg [1, 7, 8, 9] (.c (.q 7 [] (.mv (.t 0))) (.c (.q 8 [] (.lens (.t 7))) (.c (.q 9 [] (.mv (.c (.int .i64 0)))) .nil)))) t_lwithin_7) t_lwithin_8) k e w := rfl
def x_lwithin : X := (.seq (.reg [0, 1] (.c (.q 4 [] (.mv (.c (.bool false)))) .nil)) t_lwithin_9)
theorem u_lwithin (P : Program) (k : KT) (e : Env) (w : World) : vcK P x_lwithin k e w = vcK P (.seq (.reg [0, 1] (.c (.q 4 [] (.mv (.c (.bool false)))) .nil)) t_lwithin_9) k e w := rfl
def r_lwithin : List XO := [(.mv (.t 4))]
theorem c_lwithin : convF Try.prog [145, 147, 148, 149, 158, 205, 206, 232, 234, 247, 248, 256, 261, 283, 284, 299, 300, 307] Try.f54 [([0, 1], []), ([1, 7, 8, 9], []), ([9], [1, 7, 8]), ([1, 7, 8, 9, 10], []), ([1, 6, 7, 8, 9], []), ([1, 7, 8, 9, 16], []), ([4], []), ([1, 7, 8, 9], []), ([4], [])] = some (x_lwithin, r_lwithin) := by kernel_rfl
def us_lwithin := And.intro @u_lwithin (And.intro @u_lwithin_1 (And.intro @u_lwithin_2 (And.intro @u_lwithin_3 (And.intro @u_lwithin_4 (And.intro @u_lwithin_5 (And.intro @u_lwithin_6 (And.intro @u_lwithin_7 (And.intro @u_lwithin_8 @u_lwithin_9))))))))

section
variable {P : Program} {m : Option World} {ps : List Nat} {k : KT} {r : XT} {d : Option Nat} {l : EL} {w : World}
/-- A call of a function's value. -/
theorem m_callv {n : Nat} {first cap args : List Value} {R : Value → World → Prop} (hfn : ∃ fn, P.funcs[n]? = some fn ∧ fn.body.isSome = true ∧ (fn.name == "runtime.NumGoroutine") = false)
    (h : CallsV P n (first ++ args ++ cap) w fun v w' => Ext w w' ∧ R v w') (hR : ∀ v w', Ext w w' → R v w' → ∀ s, ops P m ps k r (setO ⟨l, s⟩ d v) w') : callvL P m ps k r d l w (.func (.func n) ⟨first⟩ ⟨cap⟩) args := by
  unfold callvL
  intro s
  unfold callvK
  exact ⟨n, first, cap, rfl, hfn, CallsV.mono h fun v w' ⟨a, b⟩ => hR v w' a b s⟩
end
/-- An append, which leaves what the old slice shows. -/
theorem m_app3 {α : Type} {f : α → List Value} {z : Nat} {E : TypeId} {B : Nat} {w : World} {v : Value} {l : List α} {P : Program} {m : Option World} {ps : List Nat} {k : KT} {r : XT} {d : Option Nat} {e : EL} {T bytes : Nat} {zero : List Value} {ty : TypeId} {x : Value} {l' : List α}
    (ho : Own f z E B w v l) (hx : Sq f z w x l') (h1 : ∀ a, ∀ u ∈ f a, u.oneCell' = true) (hz : zero.length = z ∧ 0 < z) (hn : l.length + l'.length ≤ 1000000000) (hb : bytes ≤ 100000) (hB : B ≤ w.heap.size)
    (h : ∀ v' w', Own f z E B w' v' (l ++ l') → Own f z E B w' v l → w.grownBy w' v.ownBlock → (∀ b, v'.ownBlock = some b → v.ownBlock = some b ∨ w.heap.size ≤ b) → ∀ q, ops P m ps k r (setO ⟨e, q⟩ d v') w') : appL P m ps k r d e w T E z bytes zero ty v x := by
  unfold appL appK runK
  rintro q ⟨hul, i, z0, hi, hs, hby, hz0, hcs⟩
  have hsz : z0.cells.size = z := by rw [← hz.1, ← hcs]; exact Array.size_eq_length_toList
  have hnews : ∀ u ∈ l'.flatMap f, u.oneCell' = true := fun u hu => by obtain ⟨a, _, ha⟩ := List.mem_flatMap.1 hu; exact h1 a u ha
  have hml : l.length + l'.length ≤ maxLen := by unfold maxLen; omega
  have hbb : (l.length + l'.length) * bytes ≤ 140737488355328 := Nat.le_trans (Nat.mul_le_mul hn hb) (by decide)
  rcases hx.2.2 with ⟨rfl, h0⟩ | ⟨a, c, rfl, hnc, hc⟩
  · obtain rfl : l' = [] := List.length_eq_zero_iff.1 h0
    have hr : (Builtin.append_ #[T, T] ty #[v, .slice none 0 0]).run P w = .ok v w := by
      rcases ho.2 with ⟨rfl, _⟩ | ⟨g, cap, cur, rfl, _, _, hle, _⟩
      · simp [Builtin.append_, run_underlying hul, sizeOf, typeInfo, hi, Builtin.lenOf, Builtin.firstCells]
      · simp [Builtin.append_, run_underlying hul, sizeOf, typeInfo, hi, Builtin.lenOf, Builtin.firstCells, hle, storeCells]
    exact ⟨v, w, hr, fun _ h => absurd h (by decide), h v w (by simpa using ho) ho ⟨rfl, rfl, rfl, Nat.le_refl _, fun _ _ _ => rfl⟩ (fun _ h => .inl h) q⟩
  · rcases ho.2 with ⟨rfl, rfl⟩ | ⟨g, cap, cur, rfl, hg, hblk, hle, hcm, hcl, hct⟩
    · obtain ⟨v', w', hr, hw, hg, _⟩ := run_append_own (P := P) w w.heap.size T ty E i z0 z bytes hul hi hz0 hs hby hsz hz.2 (.slice none 0 0) 0 [] (World.ownsRow_nil w _ E z) a l'.length c (l'.flatMap f) hx.2.1
        hc hnews (by simpa using hml) (by simpa using hbb) (Nat.le_refl _)
      refine ⟨v', w', hr, fun _ h => absurd h (by decide), h v' w' (?_ : Own f z E B w' v' ([] ++ l')) ⟨ho.1, .inl ⟨rfl, rfl⟩⟩ hg (fun b hb => .inr (Own.bound (Own.of (B := w.heap.size) ho.1 (by rw [Nat.zero_add, List.nil_append] at hw; exact hw) (Nat.le_refl _)) b hb).1) q⟩
      rw [Nat.zero_add, List.nil_append] at hw
      rw [List.nil_append]
      exact Own.of ho.1 hw hB
    · by_cases hroom : l.length + l'.length ≤ cap
      · have hfl := flat_len ho.1 l'
        have hmul : l.length * z + l'.length * z ≤ cap * z := by rw [← Nat.add_mul]; exact Nat.mul_le_mul_right z hroom
        subst hs
        have hr := run_append_room_cells (P := P) w T ty E i hul hi g 0 l.length cap a l'.length c (l'.flatMap f) hx.2.1 hc hnews hroom
          (fun j hj => by rw [hblk.cell, List.getElem?_eq_getElem (by omega)]; rfl) (fun j hj => hblk.frozen _ (by omega))
        obtain ⟨_, hb', hu⟩ := storeCells_run (P := P) (off := 0 + l.length * i.size) (vs := l'.flatMap f) hblk (by omega) hnews
        refine ⟨_, _, hr, fun _ h => absurd h (by decide), h _ _ ⟨ho.1, .inr ⟨g, cap, _, by rw [List.length_append], hg, hb', by rw [List.length_append]; exact hroom, hcm, by rw [spl_len _ _ _ (by omega)]; exact hcl, ?_⟩⟩ ⟨ho.1, .inr ⟨g, cap, _, rfl, hg, hb', hle, hcm, by rw [spl_len _ _ _ (by omega)]; exact hcl, ?_⟩⟩ hu.grown (fun b hb2 => .inl (by simpa only [Value.ownBlock] using hb2)) q⟩
        · rw [List.length_append, Nat.add_mul, ← hfl, List.flatMap_append, ← hct, Nat.zero_add]
          exact spl_head _ _ _ (by omega)
        · rw [← hct, Nat.zero_add]
          have := spl_head cur (l'.flatMap f) (l.length * i.size) (by omega)
          have h2 := congrArg (List.take (l.length * i.size)) this
          rw [List.take_take, Nat.min_eq_left (by omega), List.take_append_of_le_length (by rw [List.length_take]; omega), List.take_take, Nat.min_self] at h2
          exact h2
      · obtain ⟨v', w', hr, hw, hg'⟩ := run_append_arg_grows (P := P) w T ty E i z0 z bytes hul hi hz0 hs hby hsz hz.2 ⟨g, 0, none⟩ l.length cap (l.flatMap f) (flat_len ho.1 l)
          (fun j u hj => by
            rw [← hct, List.getElem?_take] at hj
            rw [Addr.add_lit, Nat.zero_add, hblk.cell]
            split at hj
            · exact hj
            · cases hj)
          a l'.length c (l'.flatMap f) hx.2.1 hc (by omega) hml hbb
        refine ⟨v', w', hr, fun _ h => absurd h (by decide), h v' w' (Own.of ho.1 (by rw [List.length_append, List.flatMap_append]; exact hw) hB) (ho.ext ⟨hg'.os, hg'.tape, hg'.output, hg'.size, fun k hk => hg'.block k hk (Option.some_ne_none _)⟩) ⟨hg'.os, hg'.tape, hg'.output, hg'.size, fun k hk _ => hg'.block k hk (Option.some_ne_none _)⟩ (fun b hb => .inr (Own.bound (Own.of (B := w.heap.size) ho.1 (by rw [List.length_append, List.flatMap_append]; exact hw) (Nat.le_refl _)) b hb).1) q⟩
theorem istillS1_ok (r : List UInt8) (i b : Nat) (hi : i < r.length) (hr : r.length ≤ 100) (w : World) (hb : Blk w b [.int .i64 i] 3) : Fn 279 [S r, .pointer (some ⟨b, 0, none⟩)] w (fun v _ => v = .bool (decide (r.getD i 0 ≠ UInt8.ofNat (49 + i)))) := by
  (refine callsV_of mix Try.func279 c_istillS1 ?_; simp only [↓vsd, vsn, gW, qd, qv, ev, pick, argE, List.map_cons, List.map_nil, Option.map_some, Option.map_none, zipE, List.cons_append, List.nil_append, ne_eq, eq_self, forall_const, implies_true, if_true, if_false, reduceIte, List.cons.injEq, reduceCtorEq, Nat.reduceEqDiff, List.length_nil, List.length_cons, Nat.reduceAdd, Nat.reduceLT, List.set_cons_zero, List.set_cons_succ, ↓us_istillS1, r_istillS1])
  simp only [↓vsd, vsn, gW, qd, qv, ev, pick, argE, List.map_cons, List.map_nil, Option.map_some, Option.map_none, zipE, List.cons_append, List.nil_append, ne_eq, eq_self, forall_const, implies_true, if_true, if_false, reduceIte, List.cons.injEq, reduceCtorEq, Nat.reduceEqDiff, List.length_nil, List.length_cons, Nat.reduceAdd, Nat.reduceLT, List.set_cons_zero, List.set_cons_succ, ↓us_istillS1, r_istillS1, hb.facts, List.getD_cons_zero]
  refine ⟨by omega, inR_i64 (by omega), inR_u8 (by omega), Ext.refl _, decide_eq_decide.2 (not_congr ⟨fun e => UInt8.toNat_inj.1 (by rw [u8_nat (by omega)]; omega), fun e => by rw [e, u8_nat (by omega)]; omega⟩)⟩
theorem xslices_IndexFunc_string_string_ok (v : Value) (l : List (List UInt8)) (p : List UInt8 → Prop) [DecidablePred p] (n : Nat) (first cap : List Value) (hl : l.length ≤ 1000000000) (w : World) (h : Sq fS 1 w v l)
    (hfn : ∃ fn, Try.prog.funcs[n]? = some fn ∧ fn.body.isSome = true ∧ (fn.name == "runtime.NumGoroutine") = false) (hf : ∀ w', Ext w w' → ∀ x ∈ l, Fn n (first ++ [S x] ++ cap) w' (fun r _ => r = .bool (decide (p x)))) :
    Fn 306 [v, .func (.func n) ⟨first⟩ ⟨cap⟩] w (fun r _ => ∃ q : Int, r = .int .i64 q ∧ (0 ≤ q ↔ ∃ x ∈ l, p x)) := by
  (refine callsV_of mix Try.func306 c_xslices_IndexFunc_string_string ?_; simp only [↓vsd, vsn, gW, qd, qv, ev, pick, argE, List.map_cons, List.map_nil, Option.map_some, Option.map_none, zipE, List.cons_append, List.nil_append, ne_eq, eq_self, forall_const, implies_true, if_true, if_false, reduceIte, List.cons.injEq, reduceCtorEq, Nat.reduceEqDiff, List.length_nil, List.length_cons, Nat.reduceAdd, Nat.reduceLT, List.set_cons_zero, List.set_cons_succ, ↓us_xslices_IndexFunc_string_string, r_xslices_IndexFunc_string_string])
  simp only [↓vsd, vsn, gW, qd, qv, ev, pick, argE, List.map_cons, List.map_nil, Option.map_some, Option.map_none, zipE, List.cons_append, List.nil_append, ne_eq, eq_self, forall_const, implies_true, if_true, if_false, reduceIte, List.cons.injEq, reduceCtorEq, Nat.reduceEqDiff, List.length_nil, List.length_cons, Nat.reduceAdd, Nat.reduceLT, List.set_cons_zero, List.set_cons_succ, ↓us_xslices_IndexFunc_string_string, r_xslices_IndexFunc_string_string, h.facts]
  refine m_upto l.length (fun k vs w' => vs = [.int .i64 k] ∧ (∀ x ∈ l.take k, ¬ p x) ∧ Ext w w') ⟨rfl, by simp, Ext.refl _⟩ ?_
  rintro k vs w1 hk ⟨rfl, hall, hx⟩
  have hq := h.ext hx
  by_cases hlt : k < l.length
  · have hltI : (k : Int) < l.length := by omega
    have hltJ : ¬ (l.length : Int) ≤ k := by omega
    simp only [↓vsd, vsn, gW, qd, qv, ev, pick, argE, List.map_cons, List.map_nil, Option.map_some, Option.map_none, zipE, List.cons_append, List.nil_append, ne_eq, eq_self, forall_const, implies_true, if_true, if_false, reduceIte, List.cons.injEq, reduceCtorEq, Nat.reduceEqDiff, List.length_nil, List.length_cons, Nat.reduceAdd, Nat.reduceLT, List.set_cons_zero, List.set_cons_succ, ↓us_xslices_IndexFunc_string_string, r_xslices_IndexFunc_string_string, hltI, hltJ, hq.facts, hq.at1 [] hlt]
    refine ⟨by omega, m_callv hfn (hf _ hx _ (getD_mem [] hlt)) ?_⟩
    rintro _ w2 hx2 rfl
    simp only [↓vsd, vsn, gW, qd, qv, ev, pick, argE, List.map_cons, List.map_nil, Option.map_some, Option.map_none, zipE, List.cons_append, List.nil_append, ne_eq, eq_self, forall_const, implies_true, if_true, if_false, reduceIte, List.cons.injEq, reduceCtorEq, Nat.reduceEqDiff, List.length_nil, List.length_cons, Nat.reduceAdd, Nat.reduceLT, List.set_cons_zero, List.set_cons_succ, ↓us_xslices_IndexFunc_string_string, r_xslices_IndexFunc_string_string]
    refine ⟨fun hp => ⟨hx.trans hx2, k, rfl, ⟨fun _ => ⟨_, getD_mem [] hlt, hp⟩, fun _ => by omega⟩⟩, fun hp => ⟨inR_i64 (by omega), UpTo.next hlt ⟨rfl, fun x hm => ?_, hx.trans hx2⟩⟩⟩
    rcases mem_take (d := []) hlt hm with h' | rfl
    · exact hall x h'
    · exact hp
  · obtain rfl : k = l.length := by omega
    have hltI : ¬ (l.length : Int) < l.length := by omega
    simp only [↓vsd, vsn, gW, qd, qv, ev, pick, argE, List.map_cons, List.map_nil, Option.map_some, Option.map_none, zipE, List.cons_append, List.nil_append, ne_eq, eq_self, forall_const, implies_true, if_true, if_false, reduceIte, List.cons.injEq, reduceCtorEq, Nat.reduceEqDiff, List.length_nil, List.length_cons, Nat.reduceAdd, Nat.reduceLT, List.set_cons_zero, List.set_cons_succ, ↓us_xslices_IndexFunc_string_string, r_xslices_IndexFunc_string_string, hltI]
    rw [List.take_length] at hall
    exact ⟨hx, -1, rfl, ⟨fun h => by omega, fun ⟨x, hx, hp⟩ => absurd hp (hall x hx)⟩⟩
theorem xslices_ContainsFunc_string_string_ok (v : Value) (l : List (List UInt8)) (p : List UInt8 → Prop) [DecidablePred p] (n : Nat) (first cap : List Value) (hl : l.length ≤ 1000000000) (w : World) (h : Sq fS 1 w v l)
    (hfn : ∃ fn, Try.prog.funcs[n]? = some fn ∧ fn.body.isSome = true ∧ (fn.name == "runtime.NumGoroutine") = false) (hf : ∀ w', Ext w w' → ∀ x ∈ l, Fn n (first ++ [S x] ++ cap) w' (fun r _ => r = .bool (decide (p x)))) :
    Fn 278 [v, .func (.func n) ⟨first⟩ ⟨cap⟩] w (fun r _ => r = .bool (decide (∃ x ∈ l, p x))) := by
  (refine callsV_of mix Try.func278 c_xslices_ContainsFunc_string_string ?_; simp only [↓vsd, vsn, gW, qd, qv, ev, pick, argE, List.map_cons, List.map_nil, Option.map_some, Option.map_none, zipE, List.cons_append, List.nil_append, ne_eq, eq_self, forall_const, implies_true, if_true, if_false, reduceIte, List.cons.injEq, reduceCtorEq, Nat.reduceEqDiff, List.length_nil, List.length_cons, Nat.reduceAdd, Nat.reduceLT, List.set_cons_zero, List.set_cons_succ, ↓us_xslices_ContainsFunc_string_string, r_xslices_ContainsFunc_string_string])
  refine m_call (xslices_IndexFunc_string_string_ok v l p n first cap hl _ h hfn hf) ?_
  rintro _ w1 hx1 ⟨q, rfl, hq⟩
  simp only [↓vsd, vsn, gW, qd, qv, ev, pick, argE, List.map_cons, List.map_nil, Option.map_some, Option.map_none, zipE, List.cons_append, List.nil_append, ne_eq, eq_self, forall_const, implies_true, if_true, if_false, reduceIte, List.cons.injEq, reduceCtorEq, Nat.reduceEqDiff, List.length_nil, List.length_cons, Nat.reduceAdd, Nat.reduceLT, List.set_cons_zero, List.set_cons_succ, ↓us_xslices_ContainsFunc_string_string, r_xslices_ContainsFunc_string_string]
  exact ⟨hx1, by simp only [hq]⟩
/-- The bells that are in their own places in all of some rows. -/
def stillK (rows : List (List UInt8)) (n : Nat) : List Int := ((List.range n).filter fun i => decide (∀ r ∈ rows, r.getD i 0 = UInt8.ofNat (49 + i))).map fun i : Nat => ((i : Int) + 1)
theorem stillK_succ (rows : List (List UInt8)) (n : Nat) : stillK rows (n + 1) = stillK rows n ++ if (∀ r ∈ rows, r.getD n 0 = UInt8.ofNat (49 + n)) then [(n : Int) + 1] else [] := by
  rw [stillK, List.range_succ, List.filter_append, List.map_append]
  congr 1
  by_cases h : ∀ r ∈ rows, r.getD n 0 = UInt8.ofNat (49 + n)
  · rw [if_pos h, List.filter_cons_of_pos (by rw [decide_eq_true h])]; rfl
  · rw [if_neg h, List.filter_cons_of_neg (by rw [decide_eq_false h]; decide)]; rfl
theorem stillK_len (rows : List (List UInt8)) (n : Nat) : (stillK rows n).length ≤ n := by
  rw [stillK, List.length_map]
  exact Nat.le_trans (List.length_filter_le _ _) (by simp)
theorem take_mem {α : Type} {l : List α} {k : Nat} {d : α} (h : k < l.length) : l.getD k d ∈ l.take (k + 1) := by
  have e : l.take (k + 1) = l.take k ++ [l[k]] := by rw [List.take_add_one, List.getElem?_eq_getElem h]; rfl
  rw [List.getD_eq_getElem?_getD, List.getElem?_eq_getElem h, e]
  exact List.mem_append_right _ (List.mem_singleton.2 rfl)
theorem own_bell (c : UInt8) (i : Nat) (h : i ≤ 100) : ((c.toNat : Int) - 48 = ((i + 1 : Nat) : Int)) = (c = UInt8.ofNat (49 + i)) :=
  propext ⟨fun e => UInt8.toNat_inj.1 (by rw [u8_nat (by omega)]; omega), fun e => by rw [e, u8_nat (by omega)]; omega⟩
theorem istill_ok (n : Nat) (v : Value) (rows : List (List UInt8)) (hn : n ≤ 8) (hl : rows.length ≤ 1000000000) (hr : ∀ r ∈ rows, r.length = n) (w : World) (h : Sq fS 1 w v rows) : Fn 189 [.int .i64 n, v] w (fun r w' => Own fI 1 3 w.heap.size w' r (stillK rows n)) := by
  (refine callsV_of mix Try.func189 c_istill ?_; simp only [↓vsd, vsn, gW, qd, qv, ev, pick, argE, List.map_cons, List.map_nil, Option.map_some, Option.map_none, zipE, List.cons_append, List.nil_append, ne_eq, eq_self, forall_const, implies_true, if_true, if_false, reduceIte, List.cons.injEq, reduceCtorEq, Nat.reduceEqDiff, List.length_nil, List.length_cons, Nat.reduceAdd, Nat.reduceLT, List.set_cons_zero, List.set_cons_succ, ↓us_istill, r_istill])
  refine m_bsl (by simp) ?_
  rintro b w1 hb hblk hx1 hs1
  simp only [↓vsd, vsn, gW, qd, qv, ev, pick, argE, List.map_cons, List.map_nil, Option.map_some, Option.map_none, zipE, List.cons_append, List.nil_append, ne_eq, eq_self, forall_const, implies_true, if_true, if_false, reduceIte, List.cons.injEq, reduceCtorEq, Nat.reduceEqDiff, List.length_nil, List.length_cons, Nat.reduceAdd, Nat.reduceLT, List.set_cons_zero, List.set_cons_succ, ↓us_istill, r_istill]
  refine m_upto n (fun i vs w' => ∃ x, vs = [x, .int .i64 i] ∧ Own fI 1 3 w.heap.size w' x (stillK rows i) ∧ Ext w w') ⟨_, rfl, (Own.empty fI_len hblk (by omega)).to (by simp [stillK]), hx1⟩ ?_
  rintro i vs w2 hi ⟨x, rfl, ho, hx⟩
  by_cases hlt : i < n
  · have hltI : (i : Int) < n := by omega
    have hltJ : ¬ (n : Int) ≤ i := by omega
    simp only [↓vsd, vsn, gW, qd, qv, ev, pick, argE, List.map_cons, List.map_nil, Option.map_some, Option.map_none, zipE, List.cons_append, List.nil_append, ne_eq, eq_self, forall_const, implies_true, if_true, if_false, reduceIte, List.cons.injEq, reduceCtorEq, Nat.reduceEqDiff, List.length_nil, List.length_cons, Nat.reduceAdd, Nat.reduceLT, List.set_cons_zero, List.set_cons_succ, ↓us_istill, r_istill, hltI, hltJ]
    refine m_al ?_
    rintro b3 w3 hb3 hblk3 hx3 hs3
    simp only [↓vsd, vsn, gW, qd, qv, ev, pick, argE, List.map_cons, List.map_nil, Option.map_some, Option.map_none, zipE, List.cons_append, List.nil_append, ne_eq, eq_self, forall_const, implies_true, if_true, if_false, reduceIte, List.cons.injEq, reduceCtorEq, Nat.reduceEqDiff, List.length_nil, List.length_cons, Nat.reduceAdd, Nat.reduceLT, List.set_cons_zero, List.set_cons_succ, ↓us_istill, r_istill]
    refine m_st hblk3 rfl (Nat.le_refl 1) (fun u hu => by simp [Value.cells] at hu; subst hu; rfl) ?_
    rintro w4 hblk4 hu4
    have h4 : Blk w4 b3 [.int .i64 i] 3 := hblk4
    have hx24 : Ext w2 w4 := hu4.below hx3 (by omega)
    have ho4 := (ho.ext hx3).upd hu4 (ho.away (by omega))
    have hx4 := hx.trans hx24
    simp only [↓vsd, vsn, gW, qd, qv, ev, pick, argE, List.map_cons, List.map_nil, Option.map_some, Option.map_none, zipE, List.cons_append, List.nil_append, ne_eq, eq_self, forall_const, implies_true, if_true, if_false, reduceIte, List.cons.injEq, reduceCtorEq, Nat.reduceEqDiff, List.length_nil, List.length_cons, Nat.reduceAdd, Nat.reduceLT, List.set_cons_zero, List.set_cons_succ, ↓us_istill, r_istill]
    refine m_call (xslices_ContainsFunc_string_string_ok v rows (fun r => r.getD i 0 ≠ UInt8.ofNat (49 + i)) 279 [] [.pointer (some ⟨b3, 0, none⟩)] hl _ (h.ext hx4) ⟨_, Try.func279, rfl, rfl⟩ (fun w' hx' x hx => istillS1_ok x i b3 (by rw [hr x hx]; omega) (by rw [hr x hx]; omega) w' (h4.ext hx'))) ?_
    rintro _ w5 hx5 rfl
    have ho5 := ho4.ext hx5
    have h5 := h4.ext hx5
    have hx15 := hx4.trans hx5
    by_cases hall : ∃ x ∈ rows, x.getD i 0 ≠ UInt8.ofNat (49 + i)
    · simp only [↓vsd, vsn, gW, qd, qv, ev, pick, argE, List.map_cons, List.map_nil, Option.map_some, Option.map_none, zipE, List.cons_append, List.nil_append, ne_eq, eq_self, forall_const, implies_true, if_true, if_false, reduceIte, List.cons.injEq, reduceCtorEq, Nat.reduceEqDiff, List.length_nil, List.length_cons, Nat.reduceAdd, Nat.reduceLT, List.set_cons_zero, List.set_cons_succ, ↓us_istill, r_istill, hall]
      refine ⟨inR_i64 (by omega), UpTo.next hlt ⟨x, rfl, ho5.to ?_, hx15⟩⟩
      rw [stillK_succ, if_neg (fun hh => by obtain ⟨r, hr, hne⟩ := hall; exact hne (hh r hr)), List.append_nil]
    · simp only [↓vsd, vsn, gW, qd, qv, ev, pick, argE, List.map_cons, List.map_nil, Option.map_some, Option.map_none, zipE, List.cons_append, List.nil_append, ne_eq, eq_self, forall_const, implies_true, if_true, if_false, reduceIte, List.cons.injEq, reduceCtorEq, Nat.reduceEqDiff, List.length_nil, List.length_cons, Nat.reduceAdd, Nat.reduceLT, List.set_cons_zero, List.set_cons_succ, ↓us_istill, r_istill, hall, h5.facts, List.getD_cons_zero]
      refine ⟨inR_i64 (by omega), m_bsl (one_el rfl) ?_⟩
      rintro b6 w6 hb6 hblk6 hx6 hs6
      simp only [↓vsd, vsn, gW, qd, qv, ev, pick, argE, List.map_cons, List.map_nil, Option.map_some, Option.map_none, zipE, List.cons_append, List.nil_append, ne_eq, eq_self, forall_const, implies_true, if_true, if_false, reduceIte, List.cons.injEq, reduceCtorEq, Nat.reduceEqDiff, List.length_nil, List.length_cons, Nat.reduceAdd, Nat.reduceLT, List.set_cons_zero, List.set_cons_succ, ↓us_istill, r_istill]
      have hll := stillK_len rows i
      refine m_app (ho5.ext hx6) (Sq.one fI_len hblk6 rfl) fI_one (by decide) (by simp; omega) (by decide) (hx15.trans hx6).size ?_
      rintro y w7 ho7 hg7
      have hx7 := (ho5.ext hx6).grown (hx15.trans hx6) (Nat.le_refl _) hg7
      simp only [↓vsd, vsn, gW, qd, qv, ev, pick, argE, List.map_cons, List.map_nil, Option.map_some, Option.map_none, zipE, List.cons_append, List.nil_append, ne_eq, eq_self, forall_const, implies_true, if_true, if_false, reduceIte, List.cons.injEq, reduceCtorEq, Nat.reduceEqDiff, List.length_nil, List.length_cons, Nat.reduceAdd, Nat.reduceLT, List.set_cons_zero, List.set_cons_succ, ↓us_istill, r_istill]
      refine ⟨inR_i64 (by omega), UpTo.next hlt ⟨y, rfl, ho7.to ?_, hx7⟩⟩
      rw [stillK_succ, if_pos (fun r hr => Classical.byContradiction fun hne => hall ⟨r, hr, hne⟩)]
  · obtain rfl : i = n := by omega
    have hltI : ¬ (i : Int) < i := by omega
    simp only [↓vsd, vsn, gW, qd, qv, ev, pick, argE, List.map_cons, List.map_nil, Option.map_some, Option.map_none, zipE, List.cons_append, List.nil_append, ne_eq, eq_self, forall_const, implies_true, if_true, if_false, reduceIte, List.cons.injEq, reduceCtorEq, Nat.reduceEqDiff, List.length_nil, List.length_cons, Nat.reduceAdd, Nat.reduceLT, List.set_cons_zero, List.set_cons_succ, ↓us_istill, r_istill, hltI]
    exact ⟨hx, ho⟩
theorem lhas_ok (v : Value) (l : List Int) (x : Int) (hl : l.length ≤ 1000000000) (w : World) (h : Sq fI 1 w v l) : Fn 55 [v, .int .i64 x] w (fun r _ => r = .bool (decide (x ∈ l))) := by
  (refine callsV_of mix Try.func55 c_lhas ?_; simp only [↓vsd, vsn, gW, qd, qv, ev, pick, argE, List.map_cons, List.map_nil, Option.map_some, Option.map_none, zipE, List.cons_append, List.nil_append, ne_eq, eq_self, forall_const, implies_true, if_true, if_false, reduceIte, List.cons.injEq, reduceCtorEq, Nat.reduceEqDiff, List.length_nil, List.length_cons, Nat.reduceAdd, Nat.reduceLT, List.set_cons_zero, List.set_cons_succ, ↓us_lhas, r_lhas])
  simp only [↓vsd, vsn, gW, qd, qv, ev, pick, argE, List.map_cons, List.map_nil, Option.map_some, Option.map_none, zipE, List.cons_append, List.nil_append, ne_eq, eq_self, forall_const, implies_true, if_true, if_false, reduceIte, List.cons.injEq, reduceCtorEq, Nat.reduceEqDiff, List.length_nil, List.length_cons, Nat.reduceAdd, Nat.reduceLT, List.set_cons_zero, List.set_cons_succ, ↓us_lhas, r_lhas, h.facts]
  refine m_upto l.length (fun k vs w' => vs = [.int .i64 k] ∧ x ∉ l.take k ∧ Ext w w') ⟨rfl, by simp, Ext.refl _⟩ ?_
  rintro k vs w1 hk ⟨rfl, hall, hx⟩
  have hq := h.ext hx
  by_cases hlt : k < l.length
  · have hltI : (k : Int) < l.length := by omega
    have hltJ : ¬ (l.length : Int) ≤ k := by omega
    simp only [↓vsd, vsn, gW, qd, qv, ev, pick, argE, List.map_cons, List.map_nil, Option.map_some, Option.map_none, zipE, List.cons_append, List.nil_append, ne_eq, eq_self, forall_const, implies_true, if_true, if_false, reduceIte, List.cons.injEq, reduceCtorEq, Nat.reduceEqDiff, List.length_nil, List.length_cons, Nat.reduceAdd, Nat.reduceLT, List.set_cons_zero, List.set_cons_succ, ↓us_lhas, r_lhas, hltI, hltJ, hq.facts, hq.at1 0 hlt]
    refine ⟨by omega, fun he => ⟨hx, ?_⟩, fun hne => ⟨inR_i64 (by omega), UpTo.next hlt ⟨rfl, fun hm => ?_, hx⟩⟩⟩
    · rw [decide_eq_true (by rw [← he]; exact getD_mem 0 hlt)]
    · rcases mem_take (d := 0) hlt hm with h' | h'
      · exact hall h'
      · exact hne h'.symm
  · obtain rfl : k = l.length := by omega
    have hltI : ¬ (l.length : Int) < l.length := by omega
    simp only [↓vsd, vsn, gW, qd, qv, ev, pick, argE, List.map_cons, List.map_nil, Option.map_some, Option.map_none, zipE, List.cons_append, List.nil_append, ne_eq, eq_self, forall_const, implies_true, if_true, if_false, reduceIte, List.cons.injEq, reduceCtorEq, Nat.reduceEqDiff, List.length_nil, List.length_cons, Nat.reduceAdd, Nat.reduceLT, List.set_cons_zero, List.set_cons_succ, ↓us_lhas, r_lhas, hltI]
    rw [List.take_length] at hall
    exact ⟨hx, by rw [decide_eq_false hall]⟩
theorem lwithin_ok (v u : Value) (l l' : List Int) (hl : l.length ≤ 1000000000) (hl' : l'.length ≤ 1000000000) (w : World) (h : Sq fI 1 w v l) (h' : Sq fI 1 w u l') : Fn 54 [v, u] w (fun r _ => r = .bool (decide (∀ x ∈ l, x ∈ l'))) := by
  (refine callsV_of mix Try.func54 c_lwithin ?_; simp only [↓vsd, vsn, gW, qd, qv, ev, pick, argE, List.map_cons, List.map_nil, Option.map_some, Option.map_none, zipE, List.cons_append, List.nil_append, ne_eq, eq_self, forall_const, implies_true, if_true, if_false, reduceIte, List.cons.injEq, reduceCtorEq, Nat.reduceEqDiff, List.length_nil, List.length_cons, Nat.reduceAdd, Nat.reduceLT, List.set_cons_zero, List.set_cons_succ, ↓us_lwithin, r_lwithin])
  simp only [↓vsd, vsn, gW, qd, qv, ev, pick, argE, List.map_cons, List.map_nil, Option.map_some, Option.map_none, zipE, List.cons_append, List.nil_append, ne_eq, eq_self, forall_const, implies_true, if_true, if_false, reduceIte, List.cons.injEq, reduceCtorEq, Nat.reduceEqDiff, List.length_nil, List.length_cons, Nat.reduceAdd, Nat.reduceLT, List.set_cons_zero, List.set_cons_succ, ↓us_lwithin, r_lwithin, h.facts]
  refine m_upto l.length (fun k vs w' => vs = [.int .i64 k] ∧ (∀ x ∈ l.take k, x ∈ l') ∧ Ext w w') ⟨rfl, by simp, Ext.refl _⟩ ?_
  rintro k vs w1 hk ⟨rfl, hall, hx⟩
  have hq := h.ext hx
  by_cases hlt : k < l.length
  · have hltI : (k : Int) < l.length := by omega
    have hltJ : ¬ (l.length : Int) ≤ k := by omega
    simp only [↓vsd, vsn, gW, qd, qv, ev, pick, argE, List.map_cons, List.map_nil, Option.map_some, Option.map_none, zipE, List.cons_append, List.nil_append, ne_eq, eq_self, forall_const, implies_true, if_true, if_false, reduceIte, List.cons.injEq, reduceCtorEq, Nat.reduceEqDiff, List.length_nil, List.length_cons, Nat.reduceAdd, Nat.reduceLT, List.set_cons_zero, List.set_cons_succ, ↓us_lwithin, r_lwithin, hltI, hltJ, hq.facts, hq.at1 0 hlt]
    refine ⟨by omega, m_call (lhas_ok u l' _ hl' _ (h'.ext hx)) ?_⟩
    rintro _ w2 hx2 rfl
    simp only [↓vsd, vsn, gW, qd, qv, ev, pick, argE, List.map_cons, List.map_nil, Option.map_some, Option.map_none, zipE, List.cons_append, List.nil_append, ne_eq, eq_self, forall_const, implies_true, if_true, if_false, reduceIte, List.cons.injEq, reduceCtorEq, Nat.reduceEqDiff, List.length_nil, List.length_cons, Nat.reduceAdd, Nat.reduceLT, List.set_cons_zero, List.set_cons_succ, ↓us_lwithin, r_lwithin]
    refine ⟨fun hno => ⟨hx.trans hx2, ?_⟩, fun hyes => ⟨inR_i64 (by omega), UpTo.next hlt ⟨rfl, fun x hm => ?_, hx.trans hx2⟩⟩⟩
    · rw [decide_eq_false (fun hh : ∀ x ∈ l, x ∈ l' => hno (hh _ (getD_mem 0 hlt)))]
    · rcases mem_take (d := 0) hlt hm with h' | rfl
      · exact hall x h'
      · exact hyes
  · obtain rfl : k = l.length := by omega
    have hltI : ¬ (l.length : Int) < l.length := by omega
    simp only [↓vsd, vsn, gW, qd, qv, ev, pick, argE, List.map_cons, List.map_nil, Option.map_some, Option.map_none, zipE, List.cons_append, List.nil_append, ne_eq, eq_self, forall_const, implies_true, if_true, if_false, reduceIte, List.cons.injEq, reduceCtorEq, Nat.reduceEqDiff, List.length_nil, List.length_cons, Nat.reduceAdd, Nat.reduceLT, List.set_cons_zero, List.set_cons_succ, ↓us_lwithin, r_lwithin, hltI]
    rw [List.take_length] at hall
    exact ⟨hx, by rw [decide_eq_true hall]⟩
theorem iHuntBells_ok (nm : List UInt8) (st : Int) (v : Value) (cs : List (List UInt8)) (hnm : nm.length ≤ 1048576) (hs : ∀ c ∈ cs, c.length ≤ 1048576) (hl : cs.length ≤ 1000000000) (w : World) (h : Sq fS 1 w v cs) :
    Fn 48 [mV nm st v] w (fun r w' => ∃ x, r = .tuple ⟨[x, .bool (decide (IsMethod nm st cs))]⟩ ∧ Own fI 1 3 w.heap.size w' x (if IsMethod nm st cs then stillK [underL (roundsL st.toNat) cs] st.toNat else [])) := by
  (refine callsV_of mix Try.func48 c_iHuntBells ?_; simp only [↓vsd, vsn, gW, qd, qv, ev, pick, argE, List.map_cons, List.map_nil, Option.map_some, Option.map_none, zipE, List.cons_append, List.nil_append, ne_eq, eq_self, forall_const, implies_true, if_true, if_false, reduceIte, List.cons.injEq, reduceCtorEq, Nat.reduceEqDiff, List.length_nil, List.length_cons, Nat.reduceAdd, Nat.reduceLT, List.set_cons_zero, List.set_cons_succ, ↓us_iHuntBells, r_iHuntBells])
  refine m_al ?_
  rintro b w1 hb hblk hx1 hs1
  have h1 : Blk w1 b (fM nm st v) 58 := hblk
  simp only [↓vsd, vsn, gW, qd, qv, ev, pick, argE, List.map_cons, List.map_nil, Option.map_some, Option.map_none, zipE, List.cons_append, List.nil_append, ne_eq, eq_self, forall_const, implies_true, if_true, if_false, reduceIte, List.cons.injEq, reduceCtorEq, Nat.reduceEqDiff, List.length_nil, List.length_cons, Nat.reduceAdd, Nat.reduceLT, List.set_cons_zero, List.set_cons_succ, ↓us_iHuntBells, r_iHuntBells, h1.facts, fMg]
  refine m_call (iGoodMethod_ok nm st v cs hnm hs hl _ (h.ext hx1)) ?_
  rintro _ w2 hx2 rfl
  have h2 := h1.ext hx2
  have hx12 := hx1.trans hx2
  by_cases hm : IsMethod nm st cs
  · obtain ⟨n, rfl⟩ : ∃ n : Nat, st = n := ⟨st.toNat, by have := hm.2.1; omega⟩
    have h8 := hm.2.1
    simp only [↓vsd, vsn, gW, qd, qv, ev, pick, argE, List.map_cons, List.map_nil, Option.map_some, Option.map_none, zipE, List.cons_append, List.nil_append, ne_eq, eq_self, forall_const, implies_true, if_true, if_false, reduceIte, List.cons.injEq, reduceCtorEq, Nat.reduceEqDiff, List.length_nil, List.length_cons, Nat.reduceAdd, Nat.reduceLT, List.set_cons_zero, List.set_cons_succ, ↓us_iHuntBells, r_iHuntBells, hm, h2.facts, fMg]
    refine m_call (ileadHead_ok nm n v cs hm _ (h.ext (dr hx12))) ?_
    rintro _ w3 hx3 rfl
    have hx3 := ud hx3
    simp only [↓vsd, vsn, gW, qd, qv, ev, pick, argE, List.map_cons, List.map_nil, Option.map_some, Option.map_none, zipE, List.cons_append, List.nil_append, ne_eq, eq_self, forall_const, implies_true, if_true, if_false, reduceIte, List.cons.injEq, reduceCtorEq, Nat.reduceEqDiff, List.length_nil, List.length_cons, Nat.reduceAdd, Nat.reduceLT, List.set_cons_zero, List.set_cons_succ, ↓us_iHuntBells, r_iHuntBells, h2.facts, fMg]
    refine m_bsl (one_el rfl) ?_
    rintro b4 w4 hb4 hblk4 hx4 hs4
    simp only [↓vsd, vsn, gW, qd, qv, ev, pick, argE, List.map_cons, List.map_nil, Option.map_some, Option.map_none, zipE, List.cons_append, List.nil_append, ne_eq, eq_self, forall_const, implies_true, if_true, if_false, reduceIte, List.cons.injEq, reduceCtorEq, Nat.reduceEqDiff, List.length_nil, List.length_cons, Nat.reduceAdd, Nat.reduceLT, List.set_cons_zero, List.set_cons_succ, ↓us_iHuntBells, r_iHuntBells]
    refine m_call (istill_ok n _ [underL (roundsL n) cs] (by omega) (by simp) (fun r hr => by rw [List.mem_singleton] at hr; rw [hr, underL_len, roundsL_len]) _ (Sq.one fS_len hblk4 rfl)) ?_
    rintro x w5 hx5 ho5
    simp only [↓vsd, vsn, gW, qd, qv, ev, pick, argE, List.map_cons, List.map_nil, Option.map_some, Option.map_none, zipE, List.cons_append, List.nil_append, ne_eq, eq_self, forall_const, implies_true, if_true, if_false, reduceIte, List.cons.injEq, reduceCtorEq, Nat.reduceEqDiff, List.length_nil, List.length_cons, Nat.reduceAdd, Nat.reduceLT, List.set_cons_zero, List.set_cons_succ, ↓us_iHuntBells, r_iHuntBells]
    have hx14 := (hx12.trans hx3).trans hx4
    exact ⟨hx14.trans hx5, x, rfl, ho5.mono hx14.size⟩
  · simp only [↓vsd, vsn, gW, qd, qv, ev, pick, argE, List.map_cons, List.map_nil, Option.map_some, Option.map_none, zipE, List.cons_append, List.nil_append, ne_eq, eq_self, forall_const, implies_true, if_true, if_false, reduceIte, List.cons.injEq, reduceCtorEq, Nat.reduceEqDiff, List.length_nil, List.length_cons, Nat.reduceAdd, Nat.reduceLT, List.set_cons_zero, List.set_cons_succ, ↓us_iHuntBells, r_iHuntBells, hm]
    exact ⟨hx12, _, rfl, Own.nil fI_len⟩
theorem iStillBells_ok (nm : List UInt8) (st : Int) (v : Value) (cs : List (List UInt8)) (hnm : nm.length ≤ 1048576) (hs : ∀ c ∈ cs, c.length ≤ 1048576) (hl : cs.length ≤ 1000000000) (w : World) (h : Sq fS 1 w v cs) :
    Fn 50 [mV nm st v] w (fun r w' => ∃ x, r = .tuple ⟨[x, .bool (decide (IsMethod nm st cs))]⟩ ∧ Own fI 1 3 w.heap.size w' x (if IsMethod nm st cs then stillK (rowsU (roundsL st.toNat) cs (cs.length + 1)) st.toNat else [])) := by
  (refine callsV_of mix Try.func50 c_iStillBells ?_; simp only [↓vsd, vsn, gW, qd, qv, ev, pick, argE, List.map_cons, List.map_nil, Option.map_some, Option.map_none, zipE, List.cons_append, List.nil_append, ne_eq, eq_self, forall_const, implies_true, if_true, if_false, reduceIte, List.cons.injEq, reduceCtorEq, Nat.reduceEqDiff, List.length_nil, List.length_cons, Nat.reduceAdd, Nat.reduceLT, List.set_cons_zero, List.set_cons_succ, ↓us_iStillBells, r_iStillBells])
  refine m_al ?_
  rintro b w1 hb hblk hx1 hs1
  have h1 : Blk w1 b (fM nm st v) 58 := hblk
  simp only [↓vsd, vsn, gW, qd, qv, ev, pick, argE, List.map_cons, List.map_nil, Option.map_some, Option.map_none, zipE, List.cons_append, List.nil_append, ne_eq, eq_self, forall_const, implies_true, if_true, if_false, reduceIte, List.cons.injEq, reduceCtorEq, Nat.reduceEqDiff, List.length_nil, List.length_cons, Nat.reduceAdd, Nat.reduceLT, List.set_cons_zero, List.set_cons_succ, ↓us_iStillBells, r_iStillBells, h1.facts, fMg]
  refine m_call (iGoodMethod_ok nm st v cs hnm hs hl _ (h.ext hx1)) ?_
  rintro _ w2 hx2 rfl
  have h2 := h1.ext hx2
  have hx12 := hx1.trans hx2
  by_cases hm : IsMethod nm st cs
  · obtain ⟨n, rfl⟩ : ∃ n : Nat, st = n := ⟨st.toNat, by have := hm.2.1; omega⟩
    have h8 := hm.2.1
    simp only [↓vsd, vsn, gW, qd, qv, ev, pick, argE, List.map_cons, List.map_nil, Option.map_some, Option.map_none, zipE, List.cons_append, List.nil_append, ne_eq, eq_self, forall_const, implies_true, if_true, if_false, reduceIte, List.cons.injEq, reduceCtorEq, Nat.reduceEqDiff, List.length_nil, List.length_cons, Nat.reduceAdd, Nat.reduceLT, List.set_cons_zero, List.set_cons_succ, ↓us_iStillBells, r_iStillBells, hm, h2.facts, fMg]
    refine m_call (irounds_ok n (by omega) _) ?_
    rintro _ w3 hx3 rfl
    have hx3 := ud hx3
    have h3 := h2.ext hx3
    simp only [↓vsd, vsn, gW, qd, qv, ev, pick, argE, List.map_cons, List.map_nil, Option.map_some, Option.map_none, zipE, List.cons_append, List.nil_append, ne_eq, eq_self, forall_const, implies_true, if_true, if_false, reduceIte, List.cons.injEq, reduceCtorEq, Nat.reduceEqDiff, List.length_nil, List.length_cons, Nat.reduceAdd, Nat.reduceLT, List.set_cons_zero, List.set_cons_succ, ↓us_iStillBells, r_iStillBells, h3.facts, fMg]
    have hx13 := hx12.trans hx3
    refine m_call (irowsUnder_ok _ v cs n (roundsL_row n (by omega)) hm.2.2.2 hm.2.2.1.2 _ (h.ext hx13)) ?_
    rintro y w4 hx4 ho4
    simp only [↓vsd, vsn, gW, qd, qv, ev, pick, argE, List.map_cons, List.map_nil, Option.map_some, Option.map_none, zipE, List.cons_append, List.nil_append, ne_eq, eq_self, forall_const, implies_true, if_true, if_false, reduceIte, List.cons.injEq, reduceCtorEq, Nat.reduceEqDiff, List.length_nil, List.length_cons, Nat.reduceAdd, Nat.reduceLT, List.set_cons_zero, List.set_cons_succ, ↓us_iStillBells, r_iStillBells]
    refine m_call (istill_ok n _ _ (by omega) (by rw [rowsU_len]; have := hm.2.2.1; omega) (fun r hr => by obtain ⟨i, hi, rfl⟩ := List.mem_map.1 hr; rw [underL_len, roundsL_len]) _ ho4.sq) ?_
    rintro x w5 hx5 ho5
    simp only [↓vsd, vsn, gW, qd, qv, ev, pick, argE, List.map_cons, List.map_nil, Option.map_some, Option.map_none, zipE, List.cons_append, List.nil_append, ne_eq, eq_self, forall_const, implies_true, if_true, if_false, reduceIte, List.cons.injEq, reduceCtorEq, Nat.reduceEqDiff, List.length_nil, List.length_cons, Nat.reduceAdd, Nat.reduceLT, List.set_cons_zero, List.set_cons_succ, ↓us_iStillBells, r_iStillBells]
    exact ⟨(hx13.trans hx4).trans hx5, x, rfl, ho5.mono (hx13.trans hx4).size⟩
  · simp only [↓vsd, vsn, gW, qd, qv, ev, pick, argE, List.map_cons, List.map_nil, Option.map_some, Option.map_none, zipE, List.cons_append, List.nil_append, ne_eq, eq_self, forall_const, implies_true, if_true, if_false, reduceIte, List.cons.injEq, reduceCtorEq, Nat.reduceEqDiff, List.length_nil, List.length_cons, Nat.reduceAdd, Nat.reduceLT, List.set_cons_zero, List.set_cons_succ, ↓us_iStillBells, r_iStillBells, hm]
    exact ⟨hx12, _, rfl, Own.nil fI_len⟩
theorem sl4Hunt_ok (nm : List UInt8) (st : Int) (v : Value) (cs : List (List UInt8)) (hm : IsMethod nm st cs) (w : World) (h : Sq fS 1 w v cs) : Fn 192 [mV nm st v] w (fun r w' => Own fI 1 3 w.heap.size w' r (stillK [underL (roundsL st.toNat) cs] st.toNat)) := by
  obtain ⟨n, rfl⟩ : ∃ n : Nat, st = n := ⟨st.toNat, by have := hm.2.1; omega⟩
  (refine callsV_of mix Try.func192 c_sl4Hunt ?_; simp only [↓vsd, vsn, gW, qd, qv, ev, pick, argE, List.map_cons, List.map_nil, Option.map_some, Option.map_none, zipE, List.cons_append, List.nil_append, ne_eq, eq_self, forall_const, implies_true, if_true, if_false, reduceIte, List.cons.injEq, reduceCtorEq, Nat.reduceEqDiff, List.length_nil, List.length_cons, Nat.reduceAdd, Nat.reduceLT, List.set_cons_zero, List.set_cons_succ, ↓us_sl4Hunt, r_sl4Hunt])
  refine m_al ?_
  rintro b w1 hb hblk hx1 hs1
  have h1 : Blk w1 b (fM nm n v) 58 := hblk
  simp only [↓vsd, vsn, gW, qd, qv, ev, pick, argE, List.map_cons, List.map_nil, Option.map_some, Option.map_none, zipE, List.cons_append, List.nil_append, ne_eq, eq_self, forall_const, implies_true, if_true, if_false, reduceIte, List.cons.injEq, reduceCtorEq, Nat.reduceEqDiff, List.length_nil, List.length_cons, Nat.reduceAdd, Nat.reduceLT, List.set_cons_zero, List.set_cons_succ, ↓us_sl4Hunt, r_sl4Hunt, h1.facts, fMg]
  refine m_call (sl4Head_ok nm n v cs hm _ (h.ext hx1)) ?_
  rintro _ w2 hx2 rfl
  have h2 := h1.ext hx2
  have hx12 := hx1.trans hx2
  simp only [↓vsd, vsn, gW, qd, qv, ev, pick, argE, List.map_cons, List.map_nil, Option.map_some, Option.map_none, zipE, List.cons_append, List.nil_append, ne_eq, eq_self, forall_const, implies_true, if_true, if_false, reduceIte, List.cons.injEq, reduceCtorEq, Nat.reduceEqDiff, List.length_nil, List.length_cons, Nat.reduceAdd, Nat.reduceLT, List.set_cons_zero, List.set_cons_succ, ↓us_sl4Hunt, r_sl4Hunt]
  have h8 := hm.2.1
  have hrow := underL_row cs (roundsL_row n (by omega))
  have hul : (underL (roundsL n) cs).length = n := by rw [underL_len, roundsL_len]
  generalize underL (roundsL n) cs = hd at *
  refine m_upto n (fun i vs w' => ∃ x, vs = [x, .int .i64 (i + 1 : Nat)] ∧ Own fI 1 3 w2.heap.size w' x (stillK [hd] i) ∧ Ext w2 w') ⟨_, rfl, (Own.nil fI_len).to (by simp [stillK]), Ext.refl _⟩ ?_
  rintro i vs w3 hi ⟨x, rfl, ho, hx⟩
  have h3 := h2.ext hx
  simp only [↓vsd, vsn, gW, qd, qv, ev, pick, argE, List.map_cons, List.map_nil, Option.map_some, Option.map_none, zipE, List.cons_append, List.nil_append, ne_eq, eq_self, forall_const, implies_true, if_true, if_false, reduceIte, List.cons.injEq, reduceCtorEq, Nat.reduceEqDiff, List.length_nil, List.length_cons, Nat.reduceAdd, Nat.reduceLT, List.set_cons_zero, List.set_cons_succ, ↓us_sl4Hunt, r_sl4Hunt, h3.facts, fMg]
  refine ⟨fun hle => ?_, fun hgt => ?_⟩
  · refine m_call (sl1At_ok hd (i + 1) (by omega) (by have := hrow.low (i := i + 1 - 1) (by omega); omega) (by omega) _) ?_
    rintro _ w4 hx4 rfl
    simp only [↓vsd, vsn, gW, qd, qv, ev, pick, argE, List.map_cons, List.map_nil, Option.map_some, Option.map_none, zipE, List.cons_append, List.nil_append, ne_eq, eq_self, forall_const, implies_true, if_true, if_false, reduceIte, List.cons.injEq, reduceCtorEq, Nat.reduceEqDiff, List.length_nil, List.length_cons, Nat.reduceAdd, Nat.reduceLT, List.set_cons_zero, List.set_cons_succ, ↓us_sl4Hunt, r_sl4Hunt]
    rw [Nat.add_sub_cancel]
    have hlo := hrow.low (i := i) (by omega)
    have ho4 := ho.ext hx4
    have hx24 := hx.trans hx4
    have hlt : i < n := by omega
    have hob := Iff.of_eq (own_bell (hd.getD i 0) i (by omega))
    refine ⟨fun he => m_bsl (one_el rfl) ?_, fun hne => ⟨inR_i64 (by omega), UpTo.next hlt ⟨x, rfl, ho4.to ?_, hx24⟩⟩⟩
    · rintro b5 w5 hb5 hblk5 hx5 hs5
      simp only [↓vsd, vsn, gW, qd, qv, ev, pick, argE, List.map_cons, List.map_nil, Option.map_some, Option.map_none, zipE, List.cons_append, List.nil_append, ne_eq, eq_self, forall_const, implies_true, if_true, if_false, reduceIte, List.cons.injEq, reduceCtorEq, Nat.reduceEqDiff, List.length_nil, List.length_cons, Nat.reduceAdd, Nat.reduceLT, List.set_cons_zero, List.set_cons_succ, ↓us_sl4Hunt, r_sl4Hunt]
      have hll := stillK_len [hd] i
      refine m_app (ho4.ext hx5) (Sq.one fI_len hblk5 rfl) fI_one (by decide) (by simp; omega) (by decide) (hx24.trans hx5).size ?_
      rintro y w6 ho6 hg6
      have hx6 := (ho4.ext hx5).grown (hx24.trans hx5) (Nat.le_refl _) hg6
      simp only [↓vsd, vsn, gW, qd, qv, ev, pick, argE, List.map_cons, List.map_nil, Option.map_some, Option.map_none, zipE, List.cons_append, List.nil_append, ne_eq, eq_self, forall_const, implies_true, if_true, if_false, reduceIte, List.cons.injEq, reduceCtorEq, Nat.reduceEqDiff, List.length_nil, List.length_cons, Nat.reduceAdd, Nat.reduceLT, List.set_cons_zero, List.set_cons_succ, ↓us_sl4Hunt, r_sl4Hunt]
      refine ⟨inR_i64 (by omega), UpTo.next hlt ⟨y, rfl, ho6.to ?_, hx6⟩⟩
      rw [stillK_succ, if_pos (fun r hr => by rw [List.mem_singleton] at hr; rw [hr]; exact hob.1 he)]
      rfl
    · rw [stillK_succ, if_neg (fun hh => hne (hob.2 (hh hd (List.mem_singleton.2 rfl)))), List.append_nil]
  · obtain rfl : i = n := by omega
    exact ⟨hx12.trans hx, ho.mono hx12.size⟩
theorem sHuntBells_ok (nm : List UInt8) (st : Int) (v : Value) (cs : List (List UInt8)) (hnm : nm.length ≤ 1048576) (hs : ∀ c ∈ cs, c.length ≤ 1048576) (hl : cs.length ≤ 1000000000) (w : World) (h : Sq fS 1 w v cs) :
    Fn 49 [mV nm st v] w (fun r w' => ∃ x, r = .tuple ⟨[x, .bool (decide (IsMethod nm st cs))]⟩ ∧ Own fI 1 3 w.heap.size w' x (if IsMethod nm st cs then stillK [underL (roundsL st.toNat) cs] st.toNat else [])) := by
  (refine callsV_of mix Try.func49 c_sHuntBells ?_; simp only [↓vsd, vsn, gW, qd, qv, ev, pick, argE, List.map_cons, List.map_nil, Option.map_some, Option.map_none, zipE, List.cons_append, List.nil_append, ne_eq, eq_self, forall_const, implies_true, if_true, if_false, reduceIte, List.cons.injEq, reduceCtorEq, Nat.reduceEqDiff, List.length_nil, List.length_cons, Nat.reduceAdd, Nat.reduceLT, List.set_cons_zero, List.set_cons_succ, ↓us_sHuntBells, r_sHuntBells])
  refine m_al ?_
  rintro b w1 hb hblk hx1 hs1
  have h1 : Blk w1 b (fM nm st v) 58 := hblk
  simp only [↓vsd, vsn, gW, qd, qv, ev, pick, argE, List.map_cons, List.map_nil, Option.map_some, Option.map_none, zipE, List.cons_append, List.nil_append, ne_eq, eq_self, forall_const, implies_true, if_true, if_false, reduceIte, List.cons.injEq, reduceCtorEq, Nat.reduceEqDiff, List.length_nil, List.length_cons, Nat.reduceAdd, Nat.reduceLT, List.set_cons_zero, List.set_cons_succ, ↓us_sHuntBells, r_sHuntBells, h1.facts, fMg]
  refine m_call (sl4Good_ok nm st v cs hnm hs hl _ (h.ext hx1)) ?_
  rintro _ w2 hx2 rfl
  have h2 := h1.ext hx2
  have hx12 := hx1.trans hx2
  by_cases hm : IsMethod nm st cs
  · simp only [↓vsd, vsn, gW, qd, qv, ev, pick, argE, List.map_cons, List.map_nil, Option.map_some, Option.map_none, zipE, List.cons_append, List.nil_append, ne_eq, eq_self, forall_const, implies_true, if_true, if_false, reduceIte, List.cons.injEq, reduceCtorEq, Nat.reduceEqDiff, List.length_nil, List.length_cons, Nat.reduceAdd, Nat.reduceLT, List.set_cons_zero, List.set_cons_succ, ↓us_sHuntBells, r_sHuntBells, hm, h2.facts, fMg]
    refine m_call (sl4Hunt_ok nm st v cs hm _ (h.ext hx12)) ?_
    rintro x w3 hx3 ho3
    simp only [↓vsd, vsn, gW, qd, qv, ev, pick, argE, List.map_cons, List.map_nil, Option.map_some, Option.map_none, zipE, List.cons_append, List.nil_append, ne_eq, eq_self, forall_const, implies_true, if_true, if_false, reduceIte, List.cons.injEq, reduceCtorEq, Nat.reduceEqDiff, List.length_nil, List.length_cons, Nat.reduceAdd, Nat.reduceLT, List.set_cons_zero, List.set_cons_succ, ↓us_sHuntBells, r_sHuntBells]
    exact ⟨hx12.trans hx3, x, rfl, ho3.mono hx12.size⟩
  · simp only [↓vsd, vsn, gW, qd, qv, ev, pick, argE, List.map_cons, List.map_nil, Option.map_some, Option.map_none, zipE, List.cons_append, List.nil_append, ne_eq, eq_self, forall_const, implies_true, if_true, if_false, reduceIte, List.cons.injEq, reduceCtorEq, Nat.reduceEqDiff, List.length_nil, List.length_cons, Nat.reduceAdd, Nat.reduceLT, List.set_cons_zero, List.set_cons_succ, ↓us_sHuntBells, r_sHuntBells, hm]
    exact ⟨hx12, _, rfl, Own.nil fI_len⟩
theorem sStillBells_ok (nm : List UInt8) (st : Int) (v : Value) (cs : List (List UInt8)) (hnm : nm.length ≤ 1048576) (hs : ∀ c ∈ cs, c.length ≤ 1048576) (hl : cs.length ≤ 1000000000) (w : World) (h : Sq fS 1 w v cs) :
    Fn 51 [mV nm st v] w (fun r w' => ∃ x, r = .tuple ⟨[x, .bool (decide (IsMethod nm st cs))]⟩ ∧ Own fI 1 3 w.heap.size w' x (if IsMethod nm st cs then stillK (rowsU (roundsL st.toNat) cs (cs.length + 1)) st.toNat else [])) := by
  (refine callsV_of mix Try.func51 c_sStillBells ?_; simp only [↓vsd, vsn, gW, qd, qv, ev, pick, argE, List.map_cons, List.map_nil, Option.map_some, Option.map_none, zipE, List.cons_append, List.nil_append, ne_eq, eq_self, forall_const, implies_true, if_true, if_false, reduceIte, List.cons.injEq, reduceCtorEq, Nat.reduceEqDiff, List.length_nil, List.length_cons, Nat.reduceAdd, Nat.reduceLT, List.set_cons_zero, List.set_cons_succ, ↓us_sStillBells, r_sStillBells])
  refine m_al ?_
  rintro b w1 hb hblk hx1 hs1
  have h1 : Blk w1 b (fM nm st v) 58 := hblk
  simp only [↓vsd, vsn, gW, qd, qv, ev, pick, argE, List.map_cons, List.map_nil, Option.map_some, Option.map_none, zipE, List.cons_append, List.nil_append, ne_eq, eq_self, forall_const, implies_true, if_true, if_false, reduceIte, List.cons.injEq, reduceCtorEq, Nat.reduceEqDiff, List.length_nil, List.length_cons, Nat.reduceAdd, Nat.reduceLT, List.set_cons_zero, List.set_cons_succ, ↓us_sStillBells, r_sStillBells, h1.facts, fMg]
  refine m_call (sl4Good_ok nm st v cs hnm hs hl _ (h.ext hx1)) ?_
  rintro _ w2 hx2 rfl
  have h2 := h1.ext hx2
  have hx12 := hx1.trans hx2
  by_cases hm : IsMethod nm st cs
  · obtain ⟨n, rfl⟩ : ∃ n : Nat, st = n := ⟨st.toNat, by have := hm.2.1; omega⟩
    have h8 := hm.2.1
    have hcl := hm.2.2.1
    simp only [↓vsd, vsn, gW, qd, qv, ev, pick, argE, List.map_cons, List.map_nil, Option.map_some, Option.map_none, zipE, List.cons_append, List.nil_append, ne_eq, eq_self, forall_const, implies_true, if_true, if_false, reduceIte, List.cons.injEq, reduceCtorEq, Nat.reduceEqDiff, List.length_nil, List.length_cons, Nat.reduceAdd, Nat.reduceLT, List.set_cons_zero, List.set_cons_succ, ↓us_sStillBells, r_sStillBells, hm, h2.facts, fMg]
    refine m_call (sl1Rounds_ok n (by omega) _) ?_
    rintro _ w3 hx3 rfl
    have hx3 := ud hx3
    have h3 := h2.ext hx3
    simp only [↓vsd, vsn, gW, qd, qv, ev, pick, argE, List.map_cons, List.map_nil, Option.map_some, Option.map_none, zipE, List.cons_append, List.nil_append, ne_eq, eq_self, forall_const, implies_true, if_true, if_false, reduceIte, List.cons.injEq, reduceCtorEq, Nat.reduceEqDiff, List.length_nil, List.length_cons, Nat.reduceAdd, Nat.reduceLT, List.set_cons_zero, List.set_cons_succ, ↓us_sStillBells, r_sStillBells, h3.facts, fMg]
    have hx13 := hx12.trans hx3
    refine m_call (sl4Lead_ok (roundsL n) v cs n (roundsL_row n (by omega)) hm.2.2.2 hm.2.2.1.2 _ (h.ext hx13)) ?_
    rintro _ w4 hx4 ⟨y, rfl, ho4⟩
    simp only [↓vsd, vsn, gW, qd, qv, ev, pick, argE, List.map_cons, List.map_nil, Option.map_some, Option.map_none, zipE, List.cons_append, List.nil_append, ne_eq, eq_self, forall_const, implies_true, if_true, if_false, reduceIte, List.cons.injEq, reduceCtorEq, Nat.reduceEqDiff, List.length_nil, List.length_cons, Nat.reduceAdd, Nat.reduceLT, List.set_cons_zero, List.set_cons_succ, ↓us_sStillBells, r_sStillBells]
    have hlow : ∀ r ∈ rowsU (roundsL n) cs (cs.length + 1), IsRow r ∧ r.length = n := fun r hr => by
      obtain ⟨i, hi, rfl⟩ := List.mem_map.1 hr
      exact ⟨underL_row _ (roundsL_row n (by omega)), by rw [underL_len, roundsL_len]⟩
    have hlast : rowsU (roundsL n) cs cs.length ++ [underL (roundsL n) cs] = rowsU (roundsL n) cs (cs.length + 1) := by
      unfold rowsU
      rw [List.range_succ, List.map_append]
      simp
    have hrl := rowsU_len (roundsL n) cs (cs.length + 1)
    have hrl0 := rowsU_len (roundsL n) cs cs.length
    generalize hR : rowsU (roundsL n) cs (cs.length + 1) = R at *
    generalize hR0 : rowsU (roundsL n) cs cs.length = R0 at *
    generalize hU : underL (roundsL n) cs = U at *
    refine m_upto n (fun i vs w' => ∃ x, vs = [x, .int .i64 (i + 1 : Nat)] ∧ Own fI 1 3 w4.heap.size w' x (stillK R i) ∧ Own fS 1 9 w3.heap.size w' y R0 ∧ Ext w3 w' ∧ w4.heap.size ≤ w'.heap.size) ⟨_, rfl, (Own.nil fI_len).to (by simp [stillK]), ho4, hx4, Nat.le_refl _⟩ ?_
    rintro i vs w5 hi ⟨x, rfl, ho, hoy, hx, hs45⟩
    have h5 := h3.ext hx
    have hylt : ∀ c, y.ownBlock = some c → c < w4.heap.size := ho4.lt
    simp only [↓vsd, vsn, gW, qd, qv, ev, pick, argE, List.map_cons, List.map_nil, Option.map_some, Option.map_none, zipE, List.cons_append, List.nil_append, ne_eq, eq_self, forall_const, implies_true, if_true, if_false, reduceIte, List.cons.injEq, reduceCtorEq, Nat.reduceEqDiff, List.length_nil, List.length_cons, Nat.reduceAdd, Nat.reduceLT, List.set_cons_zero, List.set_cons_succ, ↓us_sStillBells, r_sStillBells, h5.facts, fMg]
    refine ⟨fun hle => ?_, fun hgt => ?_⟩
    · refine m_bsl (one_el rfl) ?_
      rintro b6 w6 hb6 hblk6 hx6 hs6
      simp only [↓vsd, vsn, gW, qd, qv, ev, pick, argE, List.map_cons, List.map_nil, Option.map_some, Option.map_none, zipE, List.cons_append, List.nil_append, ne_eq, eq_self, forall_const, implies_true, if_true, if_false, reduceIte, List.cons.injEq, reduceCtorEq, Nat.reduceEqDiff, List.length_nil, List.length_cons, Nat.reduceAdd, Nat.reduceLT, List.set_cons_zero, List.set_cons_succ, ↓us_sStillBells, r_sStillBells]
      have hs46 : w4.heap.size ≤ w6.heap.size := by have := hx6.size; omega
      refine m_app3 (hoy.ext hx6) (Sq.one fS_len hblk6 rfl) fS_one (by decide) (by rw [hrl0]; simp; omega) (by decide) (hx.trans hx6).size ?_
      rintro z w7 hoz hoy7 hg7 _
      have hoz := hoz.to hlast
      have ho7 := (ho.ext hx6).keep hg7 hylt
      have hx7 := (hoy.ext hx6).grown (hx.trans hx6) (Nat.le_refl _) hg7
      simp only [↓vsd, vsn, gW, qd, qv, ev, pick, argE, List.map_cons, List.map_nil, Option.map_some, Option.map_none, zipE, List.cons_append, List.nil_append, ne_eq, eq_self, forall_const, implies_true, if_true, if_false, reduceIte, List.cons.injEq, reduceCtorEq, Nat.reduceEqDiff, List.length_nil, List.length_cons, Nat.reduceAdd, Nat.reduceLT, List.set_cons_zero, List.set_cons_succ, ↓us_sStillBells, r_sStillBells, hoz.sq.facts]
      have hlt : i < n := by omega
      refine m_upto R.length (fun j vs w' => vs = [.bool (decide (∀ r ∈ R.take j, r.getD i 0 = UInt8.ofNat (49 + i))), .int .i64 j] ∧ Ext w7 w') ⟨by simp, Ext.refl _⟩ ?_
      rintro j vs w8 hj ⟨rfl, hx8⟩
      have hqz := hoz.sq.ext hx8
      by_cases hltj : j < R.length
      · have hltjI : (j : Int) < R.length := by omega
        have hltjJ : ¬ (R.length : Int) ≤ j := by omega
        have hrj := hlow _ (getD_mem [] hltj)
        have hlo := hrj.1.low (i := i) (by omega)
        by_cases hall : ∀ r ∈ R.take j, r.getD i 0 = UInt8.ofNat (49 + i)
        · have hD := decide_eq_true hall
          simp only [↓vsd, vsn, gW, qd, qv, ev, pick, argE, List.map_cons, List.map_nil, Option.map_some, Option.map_none, zipE, List.cons_append, List.nil_append, ne_eq, eq_self, forall_const, implies_true, if_true, if_false, reduceIte, List.cons.injEq, reduceCtorEq, Nat.reduceEqDiff, List.length_nil, List.length_cons, Nat.reduceAdd, Nat.reduceLT, List.set_cons_zero, List.set_cons_succ, ↓us_sStillBells, r_sStillBells, hltjI, hltjJ, hqz.facts, hqz.at1 [] hltj, hD]
          refine ⟨by omega, m_call (sl1At_ok (R.getD j []) (i + 1) (by omega) (by rw [Nat.add_sub_cancel]; omega) (by omega) _) ?_⟩
          rintro _ w9 hx9 rfl
          simp only [↓vsd, vsn, gW, qd, qv, ev, pick, argE, List.map_cons, List.map_nil, Option.map_some, Option.map_none, zipE, List.cons_append, List.nil_append, ne_eq, eq_self, forall_const, implies_true, if_true, if_false, reduceIte, List.cons.injEq, reduceCtorEq, Nat.reduceEqDiff, List.length_nil, List.length_cons, Nat.reduceAdd, Nat.reduceLT, List.set_cons_zero, List.set_cons_succ, ↓us_sStillBells, r_sStillBells]
          rw [Nat.add_sub_cancel]
          have hob := Iff.of_eq (own_bell ((R.getD j []).getD i 0) i (by omega))
          refine ⟨inR_i64 (by omega), UpTo.next hltj ⟨?_, hx8.trans hx9⟩⟩
          rw [decide_eq_decide.2 (show _ ↔ ∀ r ∈ R.take (j + 1), r.getD i 0 = UInt8.ofNat (49 + i) from ⟨fun e r hr => ?_, fun hh => hob.2 (hh _ (take_mem hltj))⟩)]
          · rfl
          · rcases mem_take (d := []) hltj hr with h' | rfl
            · exact hall r h'
            · exact hob.1 e
        · have hD := decide_eq_false hall
          simp only [↓vsd, vsn, gW, qd, qv, ev, pick, argE, List.map_cons, List.map_nil, Option.map_some, Option.map_none, zipE, List.cons_append, List.nil_append, ne_eq, eq_self, forall_const, implies_true, if_true, if_false, reduceIte, List.cons.injEq, reduceCtorEq, Nat.reduceEqDiff, List.length_nil, List.length_cons, Nat.reduceAdd, Nat.reduceLT, List.set_cons_zero, List.set_cons_succ, ↓us_sStillBells, r_sStillBells, hltjI, hltjJ, hqz.facts, hqz.at1 [] hltj, hD]
          refine ⟨by omega, inR_i64 (by omega), UpTo.next hltj ⟨?_, hx8⟩⟩
          rw [decide_eq_false (fun hh : ∀ r ∈ R.take (j + 1), r.getD i 0 = UInt8.ofNat (49 + i) => hall fun r hr => hh r (List.take_subset_take_left R (Nat.le_succ j) hr))]
          rfl
      · obtain rfl : j = R.length := by omega
        have hltjI : ¬ (R.length : Int) < R.length := by omega
        have hx78 := hx7.trans hx8
        rw [List.take_length]
        by_cases hall : ∀ r ∈ R, r.getD i 0 = UInt8.ofNat (49 + i)
        · have hD := decide_eq_true hall
          simp only [↓vsd, vsn, gW, qd, qv, ev, pick, argE, List.map_cons, List.map_nil, Option.map_some, Option.map_none, zipE, List.cons_append, List.nil_append, ne_eq, eq_self, forall_const, implies_true, if_true, if_false, reduceIte, List.cons.injEq, reduceCtorEq, Nat.reduceEqDiff, List.length_nil, List.length_cons, Nat.reduceAdd, Nat.reduceLT, List.set_cons_zero, List.set_cons_succ, ↓us_sStillBells, r_sStillBells, hltjI, hD]
          refine m_bsl (one_el rfl) ?_
          rintro b9 w9 hb9 hblk9 hx9 hs9
          simp only [↓vsd, vsn, gW, qd, qv, ev, pick, argE, List.map_cons, List.map_nil, Option.map_some, Option.map_none, zipE, List.cons_append, List.nil_append, ne_eq, eq_self, forall_const, implies_true, if_true, if_false, reduceIte, List.cons.injEq, reduceCtorEq, Nat.reduceEqDiff, List.length_nil, List.length_cons, Nat.reduceAdd, Nat.reduceLT, List.set_cons_zero, List.set_cons_succ, ↓us_sStillBells, r_sStillBells]
          have hll := stillK_len R i
          have ho9 := (ho7.ext hx8).ext hx9
          have hs49 : w4.heap.size ≤ w9.heap.size := by have := hg7.size; have := hx8.size; have := hx9.size; omega
          refine m_app ho9 (Sq.one fI_len hblk9 rfl) fI_one (by decide) (by simp; omega) (by decide) hs49 ?_
          rintro q wa hoa hga
          simp only [↓vsd, vsn, gW, qd, qv, ev, pick, argE, List.map_cons, List.map_nil, Option.map_some, Option.map_none, zipE, List.cons_append, List.nil_append, ne_eq, eq_self, forall_const, implies_true, if_true, if_false, reduceIte, List.cons.injEq, reduceCtorEq, Nat.reduceEqDiff, List.length_nil, List.length_cons, Nat.reduceAdd, Nat.reduceLT, List.set_cons_zero, List.set_cons_succ, ↓us_sStillBells, r_sStillBells]
          have hxa := ho9.mono (B' := w3.heap.size) hx4.size |>.grown (hx78.trans hx9) (Nat.le_refl _) hga
          refine ⟨inR_i64 (by omega), UpTo.next hlt ⟨q, rfl, hoa.to ?_, ((hoy7.ext hx8).ext hx9).off hga (fun c hc e => ?_), hxa, by have := hga.size; omega⟩⟩
          · rw [stillK_succ, if_pos hall]; rfl
          · have := hylt c e; have := (ho9.bound c hc).1; omega
        · have hD := decide_eq_false hall
          simp only [↓vsd, vsn, gW, qd, qv, ev, pick, argE, List.map_cons, List.map_nil, Option.map_some, Option.map_none, zipE, List.cons_append, List.nil_append, ne_eq, eq_self, forall_const, implies_true, if_true, if_false, reduceIte, List.cons.injEq, reduceCtorEq, Nat.reduceEqDiff, List.length_nil, List.length_cons, Nat.reduceAdd, Nat.reduceLT, List.set_cons_zero, List.set_cons_succ, ↓us_sStillBells, r_sStillBells, hltjI, hD]
          refine ⟨inR_i64 (by omega), UpTo.next hlt ⟨x, rfl, (ho7.ext hx8).to ?_, hoy7.ext hx8, hx78, by have := hg7.size; have := hx8.size; omega⟩⟩
          rw [stillK_succ, if_neg hall, List.append_nil]
    · obtain rfl : i = n := by omega
      exact ⟨hx13.trans hx, x, rfl, ho.mono (hx13.trans hx4).size⟩
  · simp only [↓vsd, vsn, gW, qd, qv, ev, pick, argE, List.map_cons, List.map_nil, Option.map_some, Option.map_none, zipE, List.cons_append, List.nil_append, ne_eq, eq_self, forall_const, implies_true, if_true, if_false, reduceIte, List.cons.injEq, reduceCtorEq, Nat.reduceEqDiff, List.length_nil, List.length_cons, Nat.reduceAdd, Nat.reduceLT, List.set_cons_zero, List.set_cons_succ, ↓us_sStillBells, r_sStillBells, hm]
    exact ⟨hx12, _, rfl, Own.nil fI_len⟩
end Go.Proofs.Ytjcnmobdlkmaeaa
