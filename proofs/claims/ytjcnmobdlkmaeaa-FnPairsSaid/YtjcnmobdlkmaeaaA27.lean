/-
  Changes: rows, places, swaps and mirrors, of both sides.
  Conditions: none.
-/
import Derived.Test.YtjcnmobdlkmaeaaA10
import Derived.Test.YtjcnmobdlkmaeaaPq
import Derived.Test.YtjcnmobdlkmaeaaVw
set_option linter.unusedSimpArgs false
set_option linter.unusedVariables false
set_option linter.defProp false
namespace Go.Proofs.Ytjcnmobdlkmaeaa
open Go Go.RowKit
def t_iPlacesOf_1 : X := (.cond (.t 9) (.seq (.reg [4, 5] (.c (.q 4 [] (.mv (.c (.slice none 0 0)))) (.c (.q 5 [] (.mv (.c (.bool false)))) .nil))) .ret) .skip)
theorem u_iPlacesOf_1 (P : Program) (k : KT) (e : Env) (w : World) : vcK P t_iPlacesOf_1 k e w = vcK P (.cond (.t 9) (.seq (.reg [4, 5] (.c (.q 4 [] (.mv (.c (.slice none 0 0)))) (.c (.q 5 [] (.mv (.c (.bool false)))) .nil))) .ret) .skip) k e w := rfl
def t_iPlacesOf_2 : X := (.seq (.reg [4, 5] (.c (.q 10 [] (.mv (.t 1))) (.c (.e (some 11) [] (.call false 156 [(.t 10)])) (.c (.q 4 [] (.mv (.t 11))) (.c (.q 5 [] (.mv (.c (.bool true)))) .nil))))) .ret)
theorem u_iPlacesOf_2 (P : Program) (k : KT) (e : Env) (w : World) : vcK P t_iPlacesOf_2 k e w = vcK P (.seq (.reg [4, 5] (.c (.q 10 [] (.mv (.t 1))) (.c (.e (some 11) [] (.call false 156 [(.t 10)])) (.c (.q 4 [] (.mv (.t 11))) (.c (.q 5 [] (.mv (.c (.bool true)))) .nil))))) .ret) k e w := rfl
def t_iPlacesOf_3 : X := (.seq (.seq (.reg [1, 9] (.c (.q 6 [] (.mv (.t 0))) (.c (.q 7 [] (.mv (.t 1))) (.c (.e (some 8) [] (.call false 27 [(.t 6), (.t 7)])) (.c (.q 9 [] (.not (.t 8))) .nil))))) t_iPlacesOf_1) t_iPlacesOf_2)
theorem u_iPlacesOf_3 (P : Program) (k : KT) (e : Env) (w : World) : vcK P t_iPlacesOf_3 k e w = vcK P (.seq (.seq (.reg [1, 9] (.c (.q 6 [] (.mv (.t 0))) (.c (.q 7 [] (.mv (.t 1))) (.c (.e (some 8) [] (.call false 27 [(.t 6), (.t 7)])) (.c (.q 9 [] (.not (.t 8))) .nil))))) t_iPlacesOf_1) t_iPlacesOf_2) k e w := rfl
def x_iPlacesOf : X := (.seq (.reg [0, 1] (.c (.q 4 [] (.mv (.c (.slice none 0 0)))) (.c (.q 5 [] (.mv (.c (.bool false)))) .nil))) t_iPlacesOf_3)
theorem u_iPlacesOf (P : Program) (k : KT) (e : Env) (w : World) : vcK P x_iPlacesOf k e w = vcK P (.seq (.reg [0, 1] (.c (.q 4 [] (.mv (.c (.slice none 0 0)))) (.c (.q 5 [] (.mv (.c (.bool false)))) .nil))) t_iPlacesOf_3) k e w := rfl
def r_iPlacesOf : List XO := [(.mv (.t 4)), (.mv (.t 5))]
theorem c_iPlacesOf : convF Try.prog [145, 147, 148, 149, 158, 205, 206, 232, 234, 247, 248, 256, 261, 283, 284, 299, 300, 307] Try.f20 [([0, 1], []), ([1, 9], []), ([4, 5], []), ([4, 5], [])] = some (x_iPlacesOf, r_iPlacesOf) := by kernel_rfl
def us_iPlacesOf := And.intro @u_iPlacesOf (And.intro @u_iPlacesOf_1 (And.intro @u_iPlacesOf_2 @u_iPlacesOf_3))
def t_iSwapsOf_1 : X := (.cond (.t 9) (.seq (.reg [4, 5] (.c (.q 4 [] (.mv (.c (.slice none 0 0)))) (.c (.q 5 [] (.mv (.c (.bool false)))) .nil))) .ret) .skip)
theorem u_iSwapsOf_1 (P : Program) (k : KT) (e : Env) (w : World) : vcK P t_iSwapsOf_1 k e w = vcK P (.cond (.t 9) (.seq (.reg [4, 5] (.c (.q 4 [] (.mv (.c (.slice none 0 0)))) (.c (.q 5 [] (.mv (.c (.bool false)))) .nil))) .ret) .skip) k e w := rfl
def t_iSwapsOf_2 : X := (.seq (.reg [4, 5] (.c (.q 10 [] (.mv (.t 0))) (.c (.q 11 [] (.mv (.t 1))) (.c (.e (some 12) [] (.call false 157 [(.t 10), (.t 11)])) (.c (.q 4 [] (.mv (.t 12))) (.c (.q 5 [] (.mv (.c (.bool true)))) .nil)))))) .ret)
theorem u_iSwapsOf_2 (P : Program) (k : KT) (e : Env) (w : World) : vcK P t_iSwapsOf_2 k e w = vcK P (.seq (.reg [4, 5] (.c (.q 10 [] (.mv (.t 0))) (.c (.q 11 [] (.mv (.t 1))) (.c (.e (some 12) [] (.call false 157 [(.t 10), (.t 11)])) (.c (.q 4 [] (.mv (.t 12))) (.c (.q 5 [] (.mv (.c (.bool true)))) .nil)))))) .ret) k e w := rfl
def t_iSwapsOf_3 : X := (.seq (.seq (.reg [0, 1, 9] (.c (.q 6 [] (.mv (.t 0))) (.c (.q 7 [] (.mv (.t 1))) (.c (.e (some 8) [] (.call false 27 [(.t 6), (.t 7)])) (.c (.q 9 [] (.not (.t 8))) .nil))))) t_iSwapsOf_1) t_iSwapsOf_2)
theorem u_iSwapsOf_3 (P : Program) (k : KT) (e : Env) (w : World) : vcK P t_iSwapsOf_3 k e w = vcK P (.seq (.seq (.reg [0, 1, 9] (.c (.q 6 [] (.mv (.t 0))) (.c (.q 7 [] (.mv (.t 1))) (.c (.e (some 8) [] (.call false 27 [(.t 6), (.t 7)])) (.c (.q 9 [] (.not (.t 8))) .nil))))) t_iSwapsOf_1) t_iSwapsOf_2) k e w := rfl
def x_iSwapsOf : X := (.seq (.reg [0, 1] (.c (.q 4 [] (.mv (.c (.slice none 0 0)))) (.c (.q 5 [] (.mv (.c (.bool false)))) .nil))) t_iSwapsOf_3)
theorem u_iSwapsOf (P : Program) (k : KT) (e : Env) (w : World) : vcK P x_iSwapsOf k e w = vcK P (.seq (.reg [0, 1] (.c (.q 4 [] (.mv (.c (.slice none 0 0)))) (.c (.q 5 [] (.mv (.c (.bool false)))) .nil))) t_iSwapsOf_3) k e w := rfl
def r_iSwapsOf : List XO := [(.mv (.t 4)), (.mv (.t 5))]
theorem c_iSwapsOf : convF Try.prog [145, 147, 148, 149, 158, 205, 206, 232, 234, 247, 248, 256, 261, 283, 284, 299, 300, 307] Try.f21 [([0, 1], []), ([0, 1, 9], []), ([4, 5], []), ([4, 5], [])] = some (x_iSwapsOf, r_iSwapsOf) := by kernel_rfl
def us_iSwapsOf := And.intro @u_iSwapsOf (And.intro @u_iSwapsOf_1 (And.intro @u_iSwapsOf_2 @u_iSwapsOf_3))
def t_iChangeRow_1 : X := (.cond (.t 9) (.seq (.reg [4, 5] (.c (.q 4 [] (.mv (.s []))) (.c (.q 5 [] (.mv (.c (.bool false)))) .nil))) .ret) .skip)
theorem u_iChangeRow_1 (P : Program) (k : KT) (e : Env) (w : World) : vcK P t_iChangeRow_1 k e w = vcK P (.cond (.t 9) (.seq (.reg [4, 5] (.c (.q 4 [] (.mv (.s []))) (.c (.q 5 [] (.mv (.c (.bool false)))) .nil))) .ret) .skip) k e w := rfl
def t_iChangeRow_2 : X := (.seq (.reg [4, 5] (.c (.q 10 [] (.mv (.t 0))) (.c (.q 11 [] (.mv (.t 1))) (.c (.e (some 12) [] (.call false 159 [(.t 10), (.t 11)])) (.c (.q 4 [] (.mv (.t 12))) (.c (.q 5 [] (.mv (.c (.bool true)))) .nil)))))) .ret)
theorem u_iChangeRow_2 (P : Program) (k : KT) (e : Env) (w : World) : vcK P t_iChangeRow_2 k e w = vcK P (.seq (.reg [4, 5] (.c (.q 10 [] (.mv (.t 0))) (.c (.q 11 [] (.mv (.t 1))) (.c (.e (some 12) [] (.call false 159 [(.t 10), (.t 11)])) (.c (.q 4 [] (.mv (.t 12))) (.c (.q 5 [] (.mv (.c (.bool true)))) .nil)))))) .ret) k e w := rfl
def t_iChangeRow_3 : X := (.seq (.seq (.reg [0, 1, 9] (.c (.q 6 [] (.mv (.t 0))) (.c (.q 7 [] (.mv (.t 1))) (.c (.e (some 8) [] (.call false 27 [(.t 6), (.t 7)])) (.c (.q 9 [] (.not (.t 8))) .nil))))) t_iChangeRow_1) t_iChangeRow_2)
theorem u_iChangeRow_3 (P : Program) (k : KT) (e : Env) (w : World) : vcK P t_iChangeRow_3 k e w = vcK P (.seq (.seq (.reg [0, 1, 9] (.c (.q 6 [] (.mv (.t 0))) (.c (.q 7 [] (.mv (.t 1))) (.c (.e (some 8) [] (.call false 27 [(.t 6), (.t 7)])) (.c (.q 9 [] (.not (.t 8))) .nil))))) t_iChangeRow_1) t_iChangeRow_2) k e w := rfl
def x_iChangeRow : X := (.seq (.reg [0, 1] (.c (.q 4 [] (.mv (.s []))) (.c (.q 5 [] (.mv (.c (.bool false)))) .nil))) t_iChangeRow_3)
theorem u_iChangeRow (P : Program) (k : KT) (e : Env) (w : World) : vcK P x_iChangeRow k e w = vcK P (.seq (.reg [0, 1] (.c (.q 4 [] (.mv (.s []))) (.c (.q 5 [] (.mv (.c (.bool false)))) .nil))) t_iChangeRow_3) k e w := rfl
def r_iChangeRow : List XO := [(.mv (.t 4)), (.mv (.t 5))]
theorem c_iChangeRow : convF Try.prog [145, 147, 148, 149, 158, 205, 206, 232, 234, 247, 248, 256, 261, 283, 284, 299, 300, 307] Try.f23 [([0, 1], []), ([0, 1, 9], []), ([4, 5], []), ([4, 5], [])] = some (x_iChangeRow, r_iChangeRow) := by kernel_rfl
def us_iChangeRow := And.intro @u_iChangeRow (And.intro @u_iChangeRow_1 (And.intro @u_iChangeRow_2 @u_iChangeRow_3))
def t_sChangeRow_1 : X := (.cond (.t 9) (.seq (.reg [4, 5] (.c (.q 4 [] (.mv (.s []))) (.c (.q 5 [] (.mv (.c (.bool false)))) .nil))) .ret) .skip)
theorem u_sChangeRow_1 (P : Program) (k : KT) (e : Env) (w : World) : vcK P t_sChangeRow_1 k e w = vcK P (.cond (.t 9) (.seq (.reg [4, 5] (.c (.q 4 [] (.mv (.s []))) (.c (.q 5 [] (.mv (.c (.bool false)))) .nil))) .ret) .skip) k e w := rfl
def t_sChangeRow_2 : X := (.seq (.reg [4, 5] (.c (.q 10 [] (.mv (.t 0))) (.c (.q 11 [] (.mv (.t 1))) (.c (.e (some 12) [] (.call false 160 [(.t 10), (.t 11)])) (.c (.q 4 [] (.mv (.t 12))) (.c (.q 5 [] (.mv (.c (.bool true)))) .nil)))))) .ret)
theorem u_sChangeRow_2 (P : Program) (k : KT) (e : Env) (w : World) : vcK P t_sChangeRow_2 k e w = vcK P (.seq (.reg [4, 5] (.c (.q 10 [] (.mv (.t 0))) (.c (.q 11 [] (.mv (.t 1))) (.c (.e (some 12) [] (.call false 160 [(.t 10), (.t 11)])) (.c (.q 4 [] (.mv (.t 12))) (.c (.q 5 [] (.mv (.c (.bool true)))) .nil)))))) .ret) k e w := rfl
def t_sChangeRow_3 : X := (.seq (.seq (.reg [0, 1, 9] (.c (.q 6 [] (.mv (.t 0))) (.c (.q 7 [] (.mv (.t 1))) (.c (.e (some 8) [] (.call false 152 [(.t 6), (.t 7)])) (.c (.q 9 [] (.not (.t 8))) .nil))))) t_sChangeRow_1) t_sChangeRow_2)
theorem u_sChangeRow_3 (P : Program) (k : KT) (e : Env) (w : World) : vcK P t_sChangeRow_3 k e w = vcK P (.seq (.seq (.reg [0, 1, 9] (.c (.q 6 [] (.mv (.t 0))) (.c (.q 7 [] (.mv (.t 1))) (.c (.e (some 8) [] (.call false 152 [(.t 6), (.t 7)])) (.c (.q 9 [] (.not (.t 8))) .nil))))) t_sChangeRow_1) t_sChangeRow_2) k e w := rfl
def x_sChangeRow : X := (.seq (.reg [0, 1] (.c (.q 4 [] (.mv (.s []))) (.c (.q 5 [] (.mv (.c (.bool false)))) .nil))) t_sChangeRow_3)
theorem u_sChangeRow (P : Program) (k : KT) (e : Env) (w : World) : vcK P x_sChangeRow k e w = vcK P (.seq (.reg [0, 1] (.c (.q 4 [] (.mv (.s []))) (.c (.q 5 [] (.mv (.c (.bool false)))) .nil))) t_sChangeRow_3) k e w := rfl
def r_sChangeRow : List XO := [(.mv (.t 4)), (.mv (.t 5))]
theorem c_sChangeRow : convF Try.prog [145, 147, 148, 149, 158, 205, 206, 232, 234, 247, 248, 256, 261, 283, 284, 299, 300, 307] Try.f24 [([0, 1], []), ([0, 1, 9], []), ([4, 5], []), ([4, 5], [])] = some (x_sChangeRow, r_sChangeRow) := by kernel_rfl
def us_sChangeRow := And.intro @u_sChangeRow (And.intro @u_sChangeRow_1 (And.intro @u_sChangeRow_2 @u_sChangeRow_3))
def t_iApply_1 : X := (.cond (.t 15) (.seq (.reg [4, 5] (.c (.q 4 [] (.mv (.s []))) (.c (.q 5 [] (.mv (.c (.bool false)))) .nil))) .ret) .skip)
theorem u_iApply_1 (P : Program) (k : KT) (e : Env) (w : World) : vcK P t_iApply_1 k e w = vcK P (.cond (.t 15) (.seq (.reg [4, 5] (.c (.q 4 [] (.mv (.s []))) (.c (.q 5 [] (.mv (.c (.bool false)))) .nil))) .ret) .skip) k e w := rfl
def t_iApply_2 : X := (.seq (.reg [4, 5] (.c (.q 16 [] (.mv (.t 0))) (.c (.q 17 [] (.mv (.t 1))) (.c (.e (some 18) [] (.call false 151 [(.t 16), (.t 17)])) (.c (.q 4 [] (.mv (.t 18))) (.c (.q 5 [] (.mv (.c (.bool true)))) .nil)))))) .ret)
theorem u_iApply_2 (P : Program) (k : KT) (e : Env) (w : World) : vcK P t_iApply_2 k e w = vcK P (.seq (.reg [4, 5] (.c (.q 16 [] (.mv (.t 0))) (.c (.q 17 [] (.mv (.t 1))) (.c (.e (some 18) [] (.call false 151 [(.t 16), (.t 17)])) (.c (.q 4 [] (.mv (.t 18))) (.c (.q 5 [] (.mv (.c (.bool true)))) .nil)))))) .ret) k e w := rfl
def t_iApply_3 : X := (.seq (.seq (.reg [0, 1, 15] (.c (.q 6 [] (.mv (.t 0))) (.c (.e (some 7) [] (.call false 150 [(.t 6)])) (.c (.q 8 [] (.not (.t 7))) (.c (.q 9 [] (.mv (.t 8))) (.c (.q 10 [(9, false)] (.mv (.t 0))) (.c (.q 11 [(9, false)] (.len (.t 10))) (.c (.q 12 [(9, false)] (.mv (.t 1))) (.c (.e (some 13) [(9, false)] (.call false 27 [(.t 11), (.t 12)])) (.c (.q 14 [(9, false)] (.not (.t 13))) (.c (.q 15 [] (.pick (.t 9) (.c (.bool true)) (.t 14))) .nil))))))))))) t_iApply_1) t_iApply_2)
theorem u_iApply_3 (P : Program) (k : KT) (e : Env) (w : World) : vcK P t_iApply_3 k e w = vcK P (.seq (.seq (.reg [0, 1, 15] (.c (.q 6 [] (.mv (.t 0))) (.c (.e (some 7) [] (.call false 150 [(.t 6)])) (.c (.q 8 [] (.not (.t 7))) (.c (.q 9 [] (.mv (.t 8))) (.c (.q 10 [(9, false)] (.mv (.t 0))) (.c (.q 11 [(9, false)] (.len (.t 10))) (.c (.q 12 [(9, false)] (.mv (.t 1))) (.c (.e (some 13) [(9, false)] (.call false 27 [(.t 11), (.t 12)])) (.c (.q 14 [(9, false)] (.not (.t 13))) (.c (.q 15 [] (.pick (.t 9) (.c (.bool true)) (.t 14))) .nil))))))))))) t_iApply_1) t_iApply_2) k e w := rfl
def x_iApply : X := (.seq (.reg [0, 1] (.c (.q 4 [] (.mv (.s []))) (.c (.q 5 [] (.mv (.c (.bool false)))) .nil))) t_iApply_3)
theorem u_iApply (P : Program) (k : KT) (e : Env) (w : World) : vcK P x_iApply k e w = vcK P (.seq (.reg [0, 1] (.c (.q 4 [] (.mv (.s []))) (.c (.q 5 [] (.mv (.c (.bool false)))) .nil))) t_iApply_3) k e w := rfl
def r_iApply : List XO := [(.mv (.t 4)), (.mv (.t 5))]
theorem c_iApply : convF Try.prog [145, 147, 148, 149, 158, 205, 206, 232, 234, 247, 248, 256, 261, 283, 284, 299, 300, 307] Try.f17 [([0, 1], []), ([0, 1, 15], []), ([4, 5], []), ([4, 5], [])] = some (x_iApply, r_iApply) := by kernel_rfl
def us_iApply := And.intro @u_iApply (And.intro @u_iApply_1 (And.intro @u_iApply_2 @u_iApply_3))
def t_sApply_1 : X := (.cond (.t 15) (.seq (.reg [4, 5] (.c (.q 4 [] (.mv (.s []))) (.c (.q 5 [] (.mv (.c (.bool false)))) .nil))) .ret) .skip)
theorem u_sApply_1 (P : Program) (k : KT) (e : Env) (w : World) : vcK P t_sApply_1 k e w = vcK P (.cond (.t 15) (.seq (.reg [4, 5] (.c (.q 4 [] (.mv (.s []))) (.c (.q 5 [] (.mv (.c (.bool false)))) .nil))) .ret) .skip) k e w := rfl
def t_sApply_2 : X := (.seq (.reg [4, 5] (.c (.q 16 [] (.mv (.t 0))) (.c (.q 17 [] (.mv (.t 1))) (.c (.e (some 18) [] (.call false 153 [(.t 16), (.t 17)])) (.c (.q 4 [] (.mv (.t 18))) (.c (.q 5 [] (.mv (.c (.bool true)))) .nil)))))) .ret)
theorem u_sApply_2 (P : Program) (k : KT) (e : Env) (w : World) : vcK P t_sApply_2 k e w = vcK P (.seq (.reg [4, 5] (.c (.q 16 [] (.mv (.t 0))) (.c (.q 17 [] (.mv (.t 1))) (.c (.e (some 18) [] (.call false 153 [(.t 16), (.t 17)])) (.c (.q 4 [] (.mv (.t 18))) (.c (.q 5 [] (.mv (.c (.bool true)))) .nil)))))) .ret) k e w := rfl
def t_sApply_3 : X := (.seq (.seq (.reg [0, 1, 15] (.c (.q 6 [] (.mv (.t 0))) (.c (.e (some 7) [] (.call false 146 [(.t 6)])) (.c (.q 8 [] (.not (.t 7))) (.c (.q 9 [] (.mv (.t 8))) (.c (.q 10 [(9, false)] (.mv (.t 0))) (.c (.q 11 [(9, false)] (.len (.t 10))) (.c (.q 12 [(9, false)] (.mv (.t 1))) (.c (.e (some 13) [(9, false)] (.call false 152 [(.t 11), (.t 12)])) (.c (.q 14 [(9, false)] (.not (.t 13))) (.c (.q 15 [] (.pick (.t 9) (.c (.bool true)) (.t 14))) .nil))))))))))) t_sApply_1) t_sApply_2)
theorem u_sApply_3 (P : Program) (k : KT) (e : Env) (w : World) : vcK P t_sApply_3 k e w = vcK P (.seq (.seq (.reg [0, 1, 15] (.c (.q 6 [] (.mv (.t 0))) (.c (.e (some 7) [] (.call false 146 [(.t 6)])) (.c (.q 8 [] (.not (.t 7))) (.c (.q 9 [] (.mv (.t 8))) (.c (.q 10 [(9, false)] (.mv (.t 0))) (.c (.q 11 [(9, false)] (.len (.t 10))) (.c (.q 12 [(9, false)] (.mv (.t 1))) (.c (.e (some 13) [(9, false)] (.call false 152 [(.t 11), (.t 12)])) (.c (.q 14 [(9, false)] (.not (.t 13))) (.c (.q 15 [] (.pick (.t 9) (.c (.bool true)) (.t 14))) .nil))))))))))) t_sApply_1) t_sApply_2) k e w := rfl
def x_sApply : X := (.seq (.reg [0, 1] (.c (.q 4 [] (.mv (.s []))) (.c (.q 5 [] (.mv (.c (.bool false)))) .nil))) t_sApply_3)
theorem u_sApply (P : Program) (k : KT) (e : Env) (w : World) : vcK P x_sApply k e w = vcK P (.seq (.reg [0, 1] (.c (.q 4 [] (.mv (.s []))) (.c (.q 5 [] (.mv (.c (.bool false)))) .nil))) t_sApply_3) k e w := rfl
def r_sApply : List XO := [(.mv (.t 4)), (.mv (.t 5))]
theorem c_sApply : convF Try.prog [145, 147, 148, 149, 158, 205, 206, 232, 234, 247, 248, 256, 261, 283, 284, 299, 300, 307] Try.f18 [([0, 1], []), ([0, 1, 15], []), ([4, 5], []), ([4, 5], [])] = some (x_sApply, r_sApply) := by kernel_rfl
def us_sApply := And.intro @u_sApply (And.intro @u_sApply_1 (And.intro @u_sApply_2 @u_sApply_3))
def t_sGoodChange_1 : X := (.seq (.reg [4] (.c (.q 5 [] (.mv (.t 0))) (.c (.q 6 [] (.mv (.t 1))) (.c (.e (some 7) [] (.call false 152 [(.t 5), (.t 6)])) (.c (.q 4 [] (.mv (.t 7))) .nil))))) .ret)
theorem u_sGoodChange_1 (P : Program) (k : KT) (e : Env) (w : World) : vcK P t_sGoodChange_1 k e w = vcK P (.seq (.reg [4] (.c (.q 5 [] (.mv (.t 0))) (.c (.q 6 [] (.mv (.t 1))) (.c (.e (some 7) [] (.call false 152 [(.t 5), (.t 6)])) (.c (.q 4 [] (.mv (.t 7))) .nil))))) .ret) k e w := rfl
def x_sGoodChange : X := (.seq (.reg [0, 1] (.c (.q 4 [] (.mv (.c (.bool false)))) .nil)) t_sGoodChange_1)
theorem u_sGoodChange (P : Program) (k : KT) (e : Env) (w : World) : vcK P x_sGoodChange k e w = vcK P (.seq (.reg [0, 1] (.c (.q 4 [] (.mv (.c (.bool false)))) .nil)) t_sGoodChange_1) k e w := rfl
def r_sGoodChange : List XO := [(.mv (.t 4))]
theorem c_sGoodChange : convF Try.prog [145, 147, 148, 149, 158, 205, 206, 232, 234, 247, 248, 256, 261, 283, 284, 299, 300, 307] Try.f28 [([0, 1], []), ([4], [])] = some (x_sGoodChange, r_sGoodChange) := by kernel_rfl
def us_sGoodChange := And.intro @u_sGoodChange @u_sGoodChange_1
def t_ibetween_1 : X := (.cond (.t 12) .skip (.exit 0))
theorem u_ibetween_1 (P : Program) (k : KT) (e : Env) (w : World) : vcK P t_ibetween_1 k e w = vcK P (.cond (.t 12) .skip (.exit 0)) k e w := rfl
def t_ibetween_2 : X := (.reg [0, 1, 6, 7, 8] (.c (.q 58 [] (.mv (.t 8))) (.c (.q 59 [] (.bin .add (.t 58) (.c (.int .i64 1)))) (.c (.q 8 [] (.mv (.t 59))) .nil))))
theorem u_ibetween_2 (P : Program) (k : KT) (e : Env) (w : World) : vcK P t_ibetween_2 k e w = vcK P (.reg [0, 1, 6, 7, 8] (.c (.q 58 [] (.mv (.t 8))) (.c (.q 59 [] (.bin .add (.t 58) (.c (.int .i64 1)))) (.c (.q 8 [] (.mv (.t 59))) .nil)))) k e w := rfl
def t_ibetween_3 : X := (.cond (.t 32) (.seq (.reg [0, 1, 6, 7, 8] (.c (.q 7 [] (.mv (.c (.bool true)))) .nil)) t_ibetween_2) (.seq (.reg [4, 5] (.c (.q 4 [] (.mv (.s []))) (.c (.q 5 [] (.mv (.c (.bool false)))) .nil))) .ret))
theorem u_ibetween_3 (P : Program) (k : KT) (e : Env) (w : World) : vcK P t_ibetween_3 k e w = vcK P (.cond (.t 32) (.seq (.reg [0, 1, 6, 7, 8] (.c (.q 7 [] (.mv (.c (.bool true)))) .nil)) t_ibetween_2) (.seq (.reg [4, 5] (.c (.q 4 [] (.mv (.s []))) (.c (.q 5 [] (.mv (.c (.bool false)))) .nil))) .ret)) k e w := rfl
def t_ibetween_4 : X := (.cond (.t 15) (.reg [0, 1, 6, 7, 8] (.c (.q 23 [] (.mv (.t 6))) (.c (.q 24 [] (.mv (.t 0))) (.c (.q 25 [] (.len (.t 24))) (.c (.e (some 26) [] (.call false 161 [(.t 25)])) (.c (.q 27 [] (.mv (.t 8))) (.c (.q 28 [] (.mv (.t 8))) (.c (.q 29 [] (.bin .add (.t 28) (.c (.int .i64 1)))) (.c (.q 30 [] (.sub (.t 26) (some (.t 27)) (some (.t 29)))) (.c (.q 31 [] (.bin .add (.t 23) (.t 30))) (.c (.q 6 [] (.mv (.t 31))) .nil))))))))))) (.seq (.drw [0, 1, 6, 8, 32] (.c (.q 33 [] (.mv (.t 8))) (.c (.q 34 [] (.bin .add (.t 33) (.c (.int .i64 1)))) (.c (.q 35 [] (.mv (.t 0))) (.c (.q 36 [] (.len (.t 35))) (.c (.q 37 [] (.bin .lss (.t 34) (.t 36))) (.c (.q 38 [] (.mv (.t 37))) (.c (.q 39 [(38, true)] (.mv (.t 0))) (.c (.q 40 [(38, true)] (.mv (.t 8))) (.c (.q 41 [(38, true)] (.idx (.t 39) (.t 40))) (.c (.q 42 [(38, true)] (.mv (.t 1))) (.c (.q 43 [(38, true)] (.mv (.t 8))) (.c (.q 44 [(38, true)] (.bin .add (.t 43) (.c (.int .i64 1)))) (.c (.q 45 [(38, true)] (.idx (.t 42) (.t 44))) (.c (.q 46 [(38, true)] (.bin .eql (.t 41) (.t 45))) (.c (.q 47 [] (.pick (.t 38) (.t 46) (.c (.bool false)))) (.c (.q 48 [] (.mv (.t 47))) (.c (.q 49 [(48, true)] (.mv (.t 0))) (.c (.q 50 [(48, true)] (.mv (.t 8))) (.c (.q 51 [(48, true)] (.bin .add (.t 50) (.c (.int .i64 1)))) (.c (.q 52 [(48, true)] (.idx (.t 49) (.t 51))) (.c (.q 53 [(48, true)] (.mv (.t 1))) (.c (.q 54 [(48, true)] (.mv (.t 8))) (.c (.q 55 [(48, true)] (.idx (.t 53) (.t 54))) (.c (.q 56 [(48, true)] (.bin .eql (.t 52) (.t 55))) (.c (.q 57 [] (.pick (.t 48) (.t 56) (.c (.bool false)))) (.c (.q 32 [] (.mv (.t 57))) .nil))))))))))))))))))))))))))) t_ibetween_3))
theorem u_ibetween_4 (P : Program) (k : KT) (e : Env) (w : World) : vcK P t_ibetween_4 k e w = vcK P (.cond (.t 15) (.reg [0, 1, 6, 7, 8] (.c (.q 23 [] (.mv (.t 6))) (.c (.q 24 [] (.mv (.t 0))) (.c (.q 25 [] (.len (.t 24))) (.c (.e (some 26) [] (.call false 161 [(.t 25)])) (.c (.q 27 [] (.mv (.t 8))) (.c (.q 28 [] (.mv (.t 8))) (.c (.q 29 [] (.bin .add (.t 28) (.c (.int .i64 1)))) (.c (.q 30 [] (.sub (.t 26) (some (.t 27)) (some (.t 29)))) (.c (.q 31 [] (.bin .add (.t 23) (.t 30))) (.c (.q 6 [] (.mv (.t 31))) .nil))))))))))) (.seq (.drw [0, 1, 6, 8, 32] (.c (.q 33 [] (.mv (.t 8))) (.c (.q 34 [] (.bin .add (.t 33) (.c (.int .i64 1)))) (.c (.q 35 [] (.mv (.t 0))) (.c (.q 36 [] (.len (.t 35))) (.c (.q 37 [] (.bin .lss (.t 34) (.t 36))) (.c (.q 38 [] (.mv (.t 37))) (.c (.q 39 [(38, true)] (.mv (.t 0))) (.c (.q 40 [(38, true)] (.mv (.t 8))) (.c (.q 41 [(38, true)] (.idx (.t 39) (.t 40))) (.c (.q 42 [(38, true)] (.mv (.t 1))) (.c (.q 43 [(38, true)] (.mv (.t 8))) (.c (.q 44 [(38, true)] (.bin .add (.t 43) (.c (.int .i64 1)))) (.c (.q 45 [(38, true)] (.idx (.t 42) (.t 44))) (.c (.q 46 [(38, true)] (.bin .eql (.t 41) (.t 45))) (.c (.q 47 [] (.pick (.t 38) (.t 46) (.c (.bool false)))) (.c (.q 48 [] (.mv (.t 47))) (.c (.q 49 [(48, true)] (.mv (.t 0))) (.c (.q 50 [(48, true)] (.mv (.t 8))) (.c (.q 51 [(48, true)] (.bin .add (.t 50) (.c (.int .i64 1)))) (.c (.q 52 [(48, true)] (.idx (.t 49) (.t 51))) (.c (.q 53 [(48, true)] (.mv (.t 1))) (.c (.q 54 [(48, true)] (.mv (.t 8))) (.c (.q 55 [(48, true)] (.idx (.t 53) (.t 54))) (.c (.q 56 [(48, true)] (.bin .eql (.t 52) (.t 55))) (.c (.q 57 [] (.pick (.t 48) (.t 56) (.c (.bool false)))) (.c (.q 32 [] (.mv (.t 57))) .nil))))))))))))))))))))))))))) t_ibetween_3)) k e w := rfl
def t_ibetween_5 : X := (.reg [0, 1, 6, 7, 8] (.c (.q 13 [] (.mv (.t 8))) (.c (.q 14 [] (.bin .add (.t 13) (.c (.int .i64 1)))) (.c (.q 8 [] (.mv (.t 14))) .nil))))
theorem u_ibetween_5 (P : Program) (k : KT) (e : Env) (w : World) : vcK P t_ibetween_5 k e w = vcK P (.reg [0, 1, 6, 7, 8] (.c (.q 13 [] (.mv (.t 8))) (.c (.q 14 [] (.bin .add (.t 13) (.c (.int .i64 1)))) (.c (.q 8 [] (.mv (.t 14))) .nil)))) k e w := rfl
def t_ibetween_6 : X := (.seq (.blk 1 (.blk 2 (.seq (.drw [0, 1, 6, 7, 8, 15] (.c (.q 16 [] (.mv (.t 0))) (.c (.q 17 [] (.mv (.t 8))) (.c (.q 18 [] (.idx (.t 16) (.t 17))) (.c (.q 19 [] (.mv (.t 1))) (.c (.q 20 [] (.mv (.t 8))) (.c (.q 21 [] (.idx (.t 19) (.t 20))) (.c (.q 22 [] (.bin .eql (.t 18) (.t 21))) (.c (.q 15 [] (.mv (.t 22))) .nil))))))))) t_ibetween_4))) t_ibetween_5)
theorem u_ibetween_6 (P : Program) (k : KT) (e : Env) (w : World) : vcK P t_ibetween_6 k e w = vcK P (.seq (.blk 1 (.blk 2 (.seq (.drw [0, 1, 6, 7, 8, 15] (.c (.q 16 [] (.mv (.t 0))) (.c (.q 17 [] (.mv (.t 8))) (.c (.q 18 [] (.idx (.t 16) (.t 17))) (.c (.q 19 [] (.mv (.t 1))) (.c (.q 20 [] (.mv (.t 8))) (.c (.q 21 [] (.idx (.t 19) (.t 20))) (.c (.q 22 [] (.bin .eql (.t 18) (.t 21))) (.c (.q 15 [] (.mv (.t 22))) .nil))))))))) t_ibetween_4))) t_ibetween_5) k e w := rfl
def t_ibetween_7 : X := (.seq (.seq (.reg [0, 1, 6, 7, 8, 12] (.c (.q 9 [] (.mv (.t 8))) (.c (.q 10 [] (.mv (.t 0))) (.c (.q 11 [] (.len (.t 10))) (.c (.q 12 [] (.bin .lss (.t 9) (.t 11))) .nil))))) t_ibetween_1) t_ibetween_6)
theorem u_ibetween_7 (P : Program) (k : KT) (e : Env) (w : World) : vcK P t_ibetween_7 k e w = vcK P (.seq (.seq (.reg [0, 1, 6, 7, 8, 12] (.c (.q 9 [] (.mv (.t 8))) (.c (.q 10 [] (.mv (.t 0))) (.c (.q 11 [] (.len (.t 10))) (.c (.q 12 [] (.bin .lss (.t 9) (.t 11))) .nil))))) t_ibetween_1) t_ibetween_6) k e w := rfl
def t_ibetween_8 : X := (.blk 0 (.loop [6, 7, 8] [0, 1] t_ibetween_7))
theorem u_ibetween_8 (P : Program) (k : KT) (e : Env) (w : World) : vcK P t_ibetween_8 k e w = vcK P (.blk 0 (.loop [6, 7, 8] [0, 1] t_ibetween_7)) k e w := rfl
def t_ibetween_9 : X := (.cond (.t 61) (.reg [6, 7] (.c (.q 6 [] (.mv (.s [45]))) .nil)) .skip)
theorem u_ibetween_9 (P : Program) (k : KT) (e : Env) (w : World) : vcK P t_ibetween_9 k e w = vcK P (.cond (.t 61) (.reg [6, 7] (.c (.q 6 [] (.mv (.s [45]))) .nil)) .skip) k e w := rfl
def t_ibetween_10 : X := (.seq (.reg [4, 5] (.c (.q 62 [] (.mv (.t 6))) (.c (.q 63 [] (.mv (.t 7))) (.c (.q 4 [] (.mv (.t 62))) (.c (.q 5 [] (.mv (.t 63))) .nil))))) .ret)
theorem u_ibetween_10 (P : Program) (k : KT) (e : Env) (w : World) : vcK P t_ibetween_10 k e w = vcK P (.seq (.reg [4, 5] (.c (.q 62 [] (.mv (.t 6))) (.c (.q 63 [] (.mv (.t 7))) (.c (.q 4 [] (.mv (.t 62))) (.c (.q 5 [] (.mv (.t 63))) .nil))))) .ret) k e w := rfl
def t_ibetween_11 : X := (.seq (.seq (.reg [6, 7, 61] (.c (.q 60 [] (.mv (.t 6))) (.c (.q 61 [] (.bin .eql (.t 60) (.s []))) .nil))) t_ibetween_9) t_ibetween_10)
theorem u_ibetween_11 (P : Program) (k : KT) (e : Env) (w : World) : vcK P t_ibetween_11 k e w = vcK P (.seq (.seq (.reg [6, 7, 61] (.c (.q 60 [] (.mv (.t 6))) (.c (.q 61 [] (.bin .eql (.t 60) (.s []))) .nil))) t_ibetween_9) t_ibetween_10) k e w := rfl
def t_ibetween_12 : X := (.seq (.seq (.reg [0, 1, 6, 7, 8] (.c (.q 8 [] (.mv (.c (.int .i64 0)))) .nil)) t_ibetween_8) t_ibetween_11)
theorem u_ibetween_12 (P : Program) (k : KT) (e : Env) (w : World) : vcK P t_ibetween_12 k e w = vcK P (.seq (.seq (.reg [0, 1, 6, 7, 8] (.c (.q 8 [] (.mv (.c (.int .i64 0)))) .nil)) t_ibetween_8) t_ibetween_11) k e w := rfl
def t_ibetween_13 : X := (.seq (.reg [0, 1, 6, 7] (.c (.q 6 [] (.mv (.s []))) (.c (.q 7 [] (.mv (.c (.bool false)))) .nil))) t_ibetween_12)
theorem u_ibetween_13 (P : Program) (k : KT) (e : Env) (w : World) : vcK P t_ibetween_13 k e w = vcK P (.seq (.reg [0, 1, 6, 7] (.c (.q 6 [] (.mv (.s []))) (.c (.q 7 [] (.mv (.c (.bool false)))) .nil))) t_ibetween_12) k e w := rfl
def x_ibetween : X := (.seq (.reg [0, 1] (.c (.q 4 [] (.mv (.s []))) (.c (.q 5 [] (.mv (.c (.bool false)))) .nil))) t_ibetween_13)
theorem u_ibetween (P : Program) (k : KT) (e : Env) (w : World) : vcK P x_ibetween k e w = vcK P (.seq (.reg [0, 1] (.c (.q 4 [] (.mv (.s []))) (.c (.q 5 [] (.mv (.c (.bool false)))) .nil))) t_ibetween_13) k e w := rfl
def r_ibetween : List XO := [(.mv (.t 4)), (.mv (.t 5))]
theorem c_ibetween : convF Try.prog [145, 147, 148, 149, 158, 205, 206, 232, 234, 247, 248, 256, 261, 283, 284, 299, 300, 307] Try.f155 [([0, 1], []), ([0, 1, 6, 7], []), ([0, 1, 6, 7, 8], []), ([6, 7, 8], [0, 1]), ([0, 1, 6, 7, 8, 12], []), ([0, 1, 6, 7, 8, 15], []), ([0, 1, 6, 7, 8], []), ([0, 1, 6, 8, 32], []), ([0, 1, 6, 7, 8], []), ([0, 1, 6, 7, 8], []), ([4, 5], []), ([0, 1, 6, 7, 8], []), ([6, 7, 61], []), ([6, 7], []), ([4, 5], [])] = some (x_ibetween, r_ibetween) := by kernel_rfl
def us_ibetween := And.intro @u_ibetween (And.intro @u_ibetween_1 (And.intro @u_ibetween_2 (And.intro @u_ibetween_3 (And.intro @u_ibetween_4 (And.intro @u_ibetween_5 (And.intro @u_ibetween_6 (And.intro @u_ibetween_7 (And.intro @u_ibetween_8 (And.intro @u_ibetween_9 (And.intro @u_ibetween_10 (And.intro @u_ibetween_11 (And.intro @u_ibetween_12 @u_ibetween_13))))))))))))
def t_iBetweenRows_1 : X := (.cond (.t 17) (.seq (.reg [4, 5] (.c (.q 4 [] (.mv (.s []))) (.c (.q 5 [] (.mv (.c (.bool false)))) .nil))) .ret) .skip)
theorem u_iBetweenRows_1 (P : Program) (k : KT) (e : Env) (w : World) : vcK P t_iBetweenRows_1 k e w = vcK P (.cond (.t 17) (.seq (.reg [4, 5] (.c (.q 4 [] (.mv (.s []))) (.c (.q 5 [] (.mv (.c (.bool false)))) .nil))) .ret) .skip) k e w := rfl
def t_iBetweenRows_2 : X := (.cond (.t 25) (.seq (.reg [4, 5] (.c (.q 4 [] (.mv (.s []))) (.c (.q 5 [] (.mv (.c (.bool false)))) .nil))) .ret) .skip)
theorem u_iBetweenRows_2 (P : Program) (k : KT) (e : Env) (w : World) : vcK P t_iBetweenRows_2 k e w = vcK P (.cond (.t 25) (.seq (.reg [4, 5] (.c (.q 4 [] (.mv (.s []))) (.c (.q 5 [] (.mv (.c (.bool false)))) .nil))) .ret) .skip) k e w := rfl
def t_iBetweenRows_3 : X := (.seq (.reg [4, 5] (.c (.q 26 [] (.mv (.t 6))) (.c (.q 4 [] (.mv (.t 26))) (.c (.q 5 [] (.mv (.c (.bool true)))) .nil)))) .ret)
theorem u_iBetweenRows_3 (P : Program) (k : KT) (e : Env) (w : World) : vcK P t_iBetweenRows_3 k e w = vcK P (.seq (.reg [4, 5] (.c (.q 26 [] (.mv (.t 6))) (.c (.q 4 [] (.mv (.t 26))) (.c (.q 5 [] (.mv (.c (.bool true)))) .nil)))) .ret) k e w := rfl
def t_iBetweenRows_4 : X := (.seq (.seq (.reg [6, 25] (.c (.q 24 [] (.mv (.t 7))) (.c (.q 25 [] (.not (.t 24))) .nil))) t_iBetweenRows_2) t_iBetweenRows_3)
theorem u_iBetweenRows_4 (P : Program) (k : KT) (e : Env) (w : World) : vcK P t_iBetweenRows_4 k e w = vcK P (.seq (.seq (.reg [6, 25] (.c (.q 24 [] (.mv (.t 7))) (.c (.q 25 [] (.not (.t 24))) .nil))) t_iBetweenRows_2) t_iBetweenRows_3) k e w := rfl
def t_iBetweenRows_5 : X := (.seq (.reg [6, 7] (.c (.q 19 [] (.mv (.t 0))) (.c (.q 20 [] (.mv (.t 1))) (.c (.e (some 21) [] (.call false 155 [(.t 19), (.t 20)])) (.c (.q 18 [] (.mv (.t 21))) (.c (.q 22 [] (.ext 0 (.t 18))) (.c (.q 23 [] (.ext 1 (.t 18))) (.c (.q 6 [] (.mv (.t 22))) (.c (.q 7 [] (.mv (.t 23))) .nil))))))))) t_iBetweenRows_4)
theorem u_iBetweenRows_5 (P : Program) (k : KT) (e : Env) (w : World) : vcK P t_iBetweenRows_5 k e w = vcK P (.seq (.reg [6, 7] (.c (.q 19 [] (.mv (.t 0))) (.c (.q 20 [] (.mv (.t 1))) (.c (.e (some 21) [] (.call false 155 [(.t 19), (.t 20)])) (.c (.q 18 [] (.mv (.t 21))) (.c (.q 22 [] (.ext 0 (.t 18))) (.c (.q 23 [] (.ext 1 (.t 18))) (.c (.q 6 [] (.mv (.t 22))) (.c (.q 7 [] (.mv (.t 23))) .nil))))))))) t_iBetweenRows_4) k e w := rfl
def t_iBetweenRows_6 : X := (.seq (.seq (.reg [0, 1, 17] (.c (.q 8 [] (.mv (.t 0))) (.c (.e (some 9) [] (.call false 150 [(.t 8)])) (.c (.q 10 [] (.not (.t 9))) (.c (.q 11 [] (.mv (.t 10))) (.c (.q 12 [(11, false)] (.mv (.t 0))) (.c (.q 13 [(11, false)] (.len (.t 12))) (.c (.q 14 [(11, false)] (.mv (.t 1))) (.c (.e (some 15) [(11, false)] (.call false 154 [(.t 13), (.t 14)])) (.c (.q 16 [(11, false)] (.not (.t 15))) (.c (.q 17 [] (.pick (.t 11) (.c (.bool true)) (.t 16))) .nil))))))))))) t_iBetweenRows_1) t_iBetweenRows_5)
theorem u_iBetweenRows_6 (P : Program) (k : KT) (e : Env) (w : World) : vcK P t_iBetweenRows_6 k e w = vcK P (.seq (.seq (.reg [0, 1, 17] (.c (.q 8 [] (.mv (.t 0))) (.c (.e (some 9) [] (.call false 150 [(.t 8)])) (.c (.q 10 [] (.not (.t 9))) (.c (.q 11 [] (.mv (.t 10))) (.c (.q 12 [(11, false)] (.mv (.t 0))) (.c (.q 13 [(11, false)] (.len (.t 12))) (.c (.q 14 [(11, false)] (.mv (.t 1))) (.c (.e (some 15) [(11, false)] (.call false 154 [(.t 13), (.t 14)])) (.c (.q 16 [(11, false)] (.not (.t 15))) (.c (.q 17 [] (.pick (.t 11) (.c (.bool true)) (.t 16))) .nil))))))))))) t_iBetweenRows_1) t_iBetweenRows_5) k e w := rfl
def x_iBetweenRows : X := (.seq (.reg [0, 1] (.c (.q 4 [] (.mv (.s []))) (.c (.q 5 [] (.mv (.c (.bool false)))) .nil))) t_iBetweenRows_6)
theorem u_iBetweenRows (P : Program) (k : KT) (e : Env) (w : World) : vcK P x_iBetweenRows k e w = vcK P (.seq (.reg [0, 1] (.c (.q 4 [] (.mv (.s []))) (.c (.q 5 [] (.mv (.c (.bool false)))) .nil))) t_iBetweenRows_6) k e w := rfl
def r_iBetweenRows : List XO := [(.mv (.t 4)), (.mv (.t 5))]
theorem c_iBetweenRows : convF Try.prog [145, 147, 148, 149, 158, 205, 206, 232, 234, 247, 248, 256, 261, 283, 284, 299, 300, 307] Try.f19 [([0, 1], []), ([0, 1, 17], []), ([4, 5], []), ([6, 7], []), ([6, 25], []), ([4, 5], []), ([4, 5], [])] = some (x_iBetweenRows, r_iBetweenRows) := by kernel_rfl
def us_iBetweenRows := And.intro @u_iBetweenRows (And.intro @u_iBetweenRows_1 (And.intro @u_iBetweenRows_2 (And.intro @u_iBetweenRows_3 (And.intro @u_iBetweenRows_4 (And.intro @u_iBetweenRows_5 @u_iBetweenRows_6)))))
def t_iMirrorChange_1 : X := (.cond (.t 12) (.seq (.reg [4, 5] (.c (.q 4 [] (.mv (.s []))) (.c (.q 5 [] (.mv (.c (.bool false)))) .nil))) .ret) .skip)
theorem u_iMirrorChange_1 (P : Program) (k : KT) (e : Env) (w : World) : vcK P t_iMirrorChange_1 k e w = vcK P (.cond (.t 12) (.seq (.reg [4, 5] (.c (.q 4 [] (.mv (.s []))) (.c (.q 5 [] (.mv (.c (.bool false)))) .nil))) .ret) .skip) k e w := rfl
def t_iMirrorChange_2 : X := (.reg [0, 6, 14, 15, 16] (.c (.q 20 [] (.mv (.t 0))) (.c (.e (some 21) [] (.call false 161 [(.t 20)])) (.c (.q 22 [] (.mv (.t 0))) (.c (.q 23 [] (.mv (.t 8))) (.c (.q 24 [] (.bin .sub (.t 22) (.t 23))) (.c (.q 25 [] (.mv (.t 0))) (.c (.q 26 [] (.mv (.t 8))) (.c (.q 27 [] (.bin .sub (.t 25) (.t 26))) (.c (.q 28 [] (.bin .add (.t 27) (.c (.int .i64 1)))) (.c (.q 29 [] (.sub (.t 21) (some (.t 24)) (some (.t 28)))) (.c (.q 30 [] (.mv (.t 6))) (.c (.q 31 [] (.bin .add (.t 29) (.t 30))) (.c (.q 6 [] (.mv (.t 31))) .nil))))))))))))))
theorem u_iMirrorChange_2 (P : Program) (k : KT) (e : Env) (w : World) : vcK P t_iMirrorChange_2 k e w = vcK P (.reg [0, 6, 14, 15, 16] (.c (.q 20 [] (.mv (.t 0))) (.c (.e (some 21) [] (.call false 161 [(.t 20)])) (.c (.q 22 [] (.mv (.t 0))) (.c (.q 23 [] (.mv (.t 8))) (.c (.q 24 [] (.bin .sub (.t 22) (.t 23))) (.c (.q 25 [] (.mv (.t 0))) (.c (.q 26 [] (.mv (.t 8))) (.c (.q 27 [] (.bin .sub (.t 25) (.t 26))) (.c (.q 28 [] (.bin .add (.t 27) (.c (.int .i64 1)))) (.c (.q 29 [] (.sub (.t 21) (some (.t 24)) (some (.t 28)))) (.c (.q 30 [] (.mv (.t 6))) (.c (.q 31 [] (.bin .add (.t 29) (.t 30))) (.c (.q 6 [] (.mv (.t 31))) .nil)))))))))))))) k e w := rfl
def t_iMirrorChange_3 : X := (.reg [0, 6, 14, 15, 16] (.c (.q 32 [] (.bin .add (.t 16) (.c (.int .i64 1)))) (.c (.q 16 [] (.mv (.t 32))) .nil)))
theorem u_iMirrorChange_3 (P : Program) (k : KT) (e : Env) (w : World) : vcK P t_iMirrorChange_3 k e w = vcK P (.reg [0, 6, 14, 15, 16] (.c (.q 32 [] (.bin .add (.t 16) (.c (.int .i64 1)))) (.c (.q 16 [] (.mv (.t 32))) .nil))) k e w := rfl
def t_iMirrorChange_4 : X := (.seq (.blk 1 (.seq (.reg [0, 6, 8, 14, 15, 16] (.c (.q 18 [] (.ia 1 (.t 14) (.t 16))) (.c (.q 19 [] (.ld (.t 18))) (.c (.q 8 [] (.mv (.t 19))) .nil)))) t_iMirrorChange_2)) t_iMirrorChange_3)
theorem u_iMirrorChange_4 (P : Program) (k : KT) (e : Env) (w : World) : vcK P t_iMirrorChange_4 k e w = vcK P (.seq (.blk 1 (.seq (.reg [0, 6, 8, 14, 15, 16] (.c (.q 18 [] (.ia 1 (.t 14) (.t 16))) (.c (.q 19 [] (.ld (.t 18))) (.c (.q 8 [] (.mv (.t 19))) .nil)))) t_iMirrorChange_2)) t_iMirrorChange_3) k e w := rfl
def t_iMirrorChange_5 : X := (.seq (.cond (.t 17) .skip (.exit 0)) t_iMirrorChange_4)
theorem u_iMirrorChange_5 (P : Program) (k : KT) (e : Env) (w : World) : vcK P t_iMirrorChange_5 k e w = vcK P (.seq (.cond (.t 17) .skip (.exit 0)) t_iMirrorChange_4) k e w := rfl
def t_iMirrorChange_6 : X := (.seq (.reg [0, 6, 14, 15, 16, 17] (.c (.q 17 [] (.bin .lss (.t 16) (.t 15))) .nil)) t_iMirrorChange_5)
theorem u_iMirrorChange_6 (P : Program) (k : KT) (e : Env) (w : World) : vcK P t_iMirrorChange_6 k e w = vcK P (.seq (.reg [0, 6, 14, 15, 16, 17] (.c (.q 17 [] (.bin .lss (.t 16) (.t 15))) .nil)) t_iMirrorChange_5) k e w := rfl
def t_iMirrorChange_7 : X := (.blk 0 (.loop [6, 16] [0, 14, 15] t_iMirrorChange_6))
theorem u_iMirrorChange_7 (P : Program) (k : KT) (e : Env) (w : World) : vcK P t_iMirrorChange_7 k e w = vcK P (.blk 0 (.loop [6, 16] [0, 14, 15] t_iMirrorChange_6)) k e w := rfl
def t_iMirrorChange_8 : X := (.cond (.t 34) (.reg [6] (.c (.q 6 [] (.mv (.s [45]))) .nil)) .skip)
theorem u_iMirrorChange_8 (P : Program) (k : KT) (e : Env) (w : World) : vcK P t_iMirrorChange_8 k e w = vcK P (.cond (.t 34) (.reg [6] (.c (.q 6 [] (.mv (.s [45]))) .nil)) .skip) k e w := rfl
def t_iMirrorChange_9 : X := (.seq (.reg [4, 5] (.c (.q 35 [] (.mv (.t 6))) (.c (.q 4 [] (.mv (.t 35))) (.c (.q 5 [] (.mv (.c (.bool true)))) .nil)))) .ret)
theorem u_iMirrorChange_9 (P : Program) (k : KT) (e : Env) (w : World) : vcK P t_iMirrorChange_9 k e w = vcK P (.seq (.reg [4, 5] (.c (.q 35 [] (.mv (.t 6))) (.c (.q 4 [] (.mv (.t 35))) (.c (.q 5 [] (.mv (.c (.bool true)))) .nil)))) .ret) k e w := rfl
def t_iMirrorChange_10 : X := (.seq (.seq (.reg [6, 34] (.c (.q 33 [] (.mv (.t 6))) (.c (.q 34 [] (.bin .eql (.t 33) (.s []))) .nil))) t_iMirrorChange_8) t_iMirrorChange_9)
theorem u_iMirrorChange_10 (P : Program) (k : KT) (e : Env) (w : World) : vcK P t_iMirrorChange_10 k e w = vcK P (.seq (.seq (.reg [6, 34] (.c (.q 33 [] (.mv (.t 6))) (.c (.q 34 [] (.bin .eql (.t 33) (.s []))) .nil))) t_iMirrorChange_8) t_iMirrorChange_9) k e w := rfl
def t_iMirrorChange_11 : X := (.seq (.seq (.reg [0, 6, 14, 15, 16] (.c (.q 13 [] (.mv (.t 1))) (.c (.e (some 14) [] (.call false 156 [(.t 13)])) (.c (.q 15 [] (.lens (.t 14))) (.c (.q 16 [] (.mv (.c (.int .i64 0)))) .nil))))) t_iMirrorChange_7) t_iMirrorChange_10)
theorem u_iMirrorChange_11 (P : Program) (k : KT) (e : Env) (w : World) : vcK P t_iMirrorChange_11 k e w = vcK P (.seq (.seq (.reg [0, 6, 14, 15, 16] (.c (.q 13 [] (.mv (.t 1))) (.c (.e (some 14) [] (.call false 156 [(.t 13)])) (.c (.q 15 [] (.lens (.t 14))) (.c (.q 16 [] (.mv (.c (.int .i64 0)))) .nil))))) t_iMirrorChange_7) t_iMirrorChange_10) k e w := rfl
def t_iMirrorChange_12 : X := (.seq (.reg [0, 1, 6] (.c (.q 6 [] (.mv (.s []))) .nil)) t_iMirrorChange_11)
theorem u_iMirrorChange_12 (P : Program) (k : KT) (e : Env) (w : World) : vcK P t_iMirrorChange_12 k e w = vcK P (.seq (.reg [0, 1, 6] (.c (.q 6 [] (.mv (.s []))) .nil)) t_iMirrorChange_11) k e w := rfl
def t_iMirrorChange_13 : X := (.seq (.seq (.reg [0, 1, 12] (.c (.q 9 [] (.mv (.t 0))) (.c (.q 10 [] (.mv (.t 1))) (.c (.e (some 11) [] (.call false 27 [(.t 9), (.t 10)])) (.c (.q 12 [] (.not (.t 11))) .nil))))) t_iMirrorChange_1) t_iMirrorChange_12)
theorem u_iMirrorChange_13 (P : Program) (k : KT) (e : Env) (w : World) : vcK P t_iMirrorChange_13 k e w = vcK P (.seq (.seq (.reg [0, 1, 12] (.c (.q 9 [] (.mv (.t 0))) (.c (.q 10 [] (.mv (.t 1))) (.c (.e (some 11) [] (.call false 27 [(.t 9), (.t 10)])) (.c (.q 12 [] (.not (.t 11))) .nil))))) t_iMirrorChange_1) t_iMirrorChange_12) k e w := rfl
def x_iMirrorChange : X := (.seq (.reg [0, 1] (.c (.q 4 [] (.mv (.s []))) (.c (.q 5 [] (.mv (.c (.bool false)))) .nil))) t_iMirrorChange_13)
theorem u_iMirrorChange (P : Program) (k : KT) (e : Env) (w : World) : vcK P x_iMirrorChange k e w = vcK P (.seq (.reg [0, 1] (.c (.q 4 [] (.mv (.s []))) (.c (.q 5 [] (.mv (.c (.bool false)))) .nil))) t_iMirrorChange_13) k e w := rfl
def r_iMirrorChange : List XO := [(.mv (.t 4)), (.mv (.t 5))]
theorem c_iMirrorChange : convF Try.prog [145, 147, 148, 149, 158, 205, 206, 232, 234, 247, 248, 256, 261, 283, 284, 299, 300, 307] Try.f25 [([0, 1], []), ([0, 1, 12], []), ([4, 5], []), ([0, 1, 6], []), ([0, 6, 14, 15, 16], []), ([6, 16], [0, 14, 15]), ([0, 6, 14, 15, 16, 17], []), ([0, 6, 8, 14, 15, 16], []), ([0, 6, 14, 15, 16], []), ([0, 6, 14, 15, 16], []), ([6, 34], []), ([6], []), ([4, 5], [])] = some (x_iMirrorChange, r_iMirrorChange) := by kernel_rfl
def us_iMirrorChange := And.intro @u_iMirrorChange (And.intro @u_iMirrorChange_1 (And.intro @u_iMirrorChange_2 (And.intro @u_iMirrorChange_3 (And.intro @u_iMirrorChange_4 (And.intro @u_iMirrorChange_5 (And.intro @u_iMirrorChange_6 (And.intro @u_iMirrorChange_7 (And.intro @u_iMirrorChange_8 (And.intro @u_iMirrorChange_9 (And.intro @u_iMirrorChange_10 (And.intro @u_iMirrorChange_11 (And.intro @u_iMirrorChange_12 @u_iMirrorChange_13))))))))))))

theorem iplacesOf_okx (c : List UInt8) (hc : c.length ≤ 1048576) (hd : c = [45] ∨ DigUp c c.length) (w : World) : Fn 156 [S c] w (fun v w' => Own fI 1 3 w.heap.size w' v (plC c)) := by
  (refine callsV_of mix Try.func156 c_iplacesOf ?_; simp only [↓vsd, vsn, gW, qd, qv, ev, pick, argE, List.map_cons, List.map_nil, Option.map_some, Option.map_none, zipE, List.cons_append, List.nil_append, ne_eq, eq_self, forall_const, implies_true, if_true, if_false, reduceIte, List.cons.injEq, reduceCtorEq, Nat.reduceEqDiff, List.length_nil, List.length_cons, Nat.reduceAdd, Nat.reduceLT, List.set_cons_zero, List.set_cons_succ, ↓us_iplacesOf, r_iplacesOf])
  refine ⟨fun he => m_bsl (fun _ h => by cases h) ?_, fun hne => m_call (iplaces_ok c hc _) ?_⟩
  · rintro b w1 hb hblk hx1 hs1
    simp only [↓vsd, vsn, gW, qd, qv, ev, pick, argE, List.map_cons, List.map_nil, Option.map_some, Option.map_none, zipE, List.cons_append, List.nil_append, ne_eq, eq_self, forall_const, implies_true, if_true, if_false, reduceIte, List.cons.injEq, reduceCtorEq, Nat.reduceEqDiff, List.length_nil, List.length_cons, Nat.reduceAdd, Nat.reduceLT, List.set_cons_zero, List.set_cons_succ, ↓us_iplacesOf, r_iplacesOf]
    exact ⟨hx1, (Own.empty fI_len hblk (by omega)).to (by rw [plC, if_pos he])⟩
  · rintro _ w1 hx1 ⟨x, rfl, hox⟩
    simp only [↓vsd, vsn, gW, qd, qv, ev, pick, argE, List.map_cons, List.map_nil, Option.map_some, Option.map_none, zipE, List.cons_append, List.nil_append, ne_eq, eq_self, forall_const, implies_true, if_true, if_false, reduceIte, List.cons.injEq, reduceCtorEq, Nat.reduceEqDiff, List.length_nil, List.length_cons, Nat.reduceAdd, Nat.reduceLT, List.set_cons_zero, List.set_cons_succ, ↓us_iplacesOf, r_iplacesOf]
    have hd := hd.resolve_left hne
    exact ⟨hx1, (hox hd).to (by rw [plC, if_neg hne]; rfl)⟩
theorem iPlacesOf_ok (n : Nat) (c : List UInt8) (h : IsChange n c) (hc : c.length ≤ 1048576) (w : World) : Fn 20 [.int .i64 n, S c] w (fun r w' => ∃ x, r = .tuple ⟨[x, .bool true]⟩ ∧ Own fI 1 3 w.heap.size w' x (plC c)) := by
  (refine callsV_of mix Try.func20 c_iPlacesOf ?_; simp only [↓vsd, vsn, gW, qd, qv, ev, pick, argE, List.map_cons, List.map_nil, Option.map_some, Option.map_none, zipE, List.cons_append, List.nil_append, ne_eq, eq_self, forall_const, implies_true, if_true, if_false, reduceIte, List.cons.injEq, reduceCtorEq, Nat.reduceEqDiff, List.length_nil, List.length_cons, Nat.reduceAdd, Nat.reduceLT, List.set_cons_zero, List.set_cons_succ, ↓us_iPlacesOf, r_iPlacesOf])
  refine m_call (iGoodChange_ok n c hc _) ?_
  rintro _ w1 hx1 rfl
  simp only [↓vsd, vsn, gW, qd, qv, ev, pick, argE, List.map_cons, List.map_nil, Option.map_some, Option.map_none, zipE, List.cons_append, List.nil_append, ne_eq, eq_self, forall_const, implies_true, if_true, if_false, reduceIte, List.cons.injEq, reduceCtorEq, Nat.reduceEqDiff, List.length_nil, List.length_cons, Nat.reduceAdd, Nat.reduceLT, List.set_cons_zero, List.set_cons_succ, ↓us_iPlacesOf, r_iPlacesOf, h]
  refine m_call (iplacesOf_okx c hc h.dig _) ?_
  rintro x w2 hx2 ho2
  simp only [↓vsd, vsn, gW, qd, qv, ev, pick, argE, List.map_cons, List.map_nil, Option.map_some, Option.map_none, zipE, List.cons_append, List.nil_append, ne_eq, eq_self, forall_const, implies_true, if_true, if_false, reduceIte, List.cons.injEq, reduceCtorEq, Nat.reduceEqDiff, List.length_nil, List.length_cons, Nat.reduceAdd, Nat.reduceLT, List.set_cons_zero, List.set_cons_succ, ↓us_iPlacesOf, r_iPlacesOf]
  exact ⟨hx1.trans hx2, x, rfl, ho2.mono hx1.size⟩
theorem iSwapsOf_ok (n : Nat) (c : List UInt8) (h : IsChange n c) (hc : c.length ≤ 1048576) (w : World) : Fn 21 [.int .i64 n, S c] w (fun r w' => ∃ x, r = .tuple ⟨[x, .bool true]⟩ ∧ Own fI 1 3 w.heap.size w' x (swC n c)) := by
  (refine callsV_of mix Try.func21 c_iSwapsOf ?_; simp only [↓vsd, vsn, gW, qd, qv, ev, pick, argE, List.map_cons, List.map_nil, Option.map_some, Option.map_none, zipE, List.cons_append, List.nil_append, ne_eq, eq_self, forall_const, implies_true, if_true, if_false, reduceIte, List.cons.injEq, reduceCtorEq, Nat.reduceEqDiff, List.length_nil, List.length_cons, Nat.reduceAdd, Nat.reduceLT, List.set_cons_zero, List.set_cons_succ, ↓us_iSwapsOf, r_iSwapsOf])
  refine m_call (iGoodChange_ok n c hc _) ?_
  rintro _ w1 hx1 rfl
  simp only [↓vsd, vsn, gW, qd, qv, ev, pick, argE, List.map_cons, List.map_nil, Option.map_some, Option.map_none, zipE, List.cons_append, List.nil_append, ne_eq, eq_self, forall_const, implies_true, if_true, if_false, reduceIte, List.cons.injEq, reduceCtorEq, Nat.reduceEqDiff, List.length_nil, List.length_cons, Nat.reduceAdd, Nat.reduceLT, List.set_cons_zero, List.set_cons_succ, ↓us_iSwapsOf, r_iSwapsOf, h]
  refine m_call (iswapsOf_ok n c (by have := h.1; omega) hc h.dig _) ?_
  rintro x w2 hx2 ho2
  simp only [↓vsd, vsn, gW, qd, qv, ev, pick, argE, List.map_cons, List.map_nil, Option.map_some, Option.map_none, zipE, List.cons_append, List.nil_append, ne_eq, eq_self, forall_const, implies_true, if_true, if_false, reduceIte, List.cons.injEq, reduceCtorEq, Nat.reduceEqDiff, List.length_nil, List.length_cons, Nat.reduceAdd, Nat.reduceLT, List.set_cons_zero, List.set_cons_succ, ↓us_iSwapsOf, r_iSwapsOf]
  exact ⟨hx1.trans hx2, x, rfl, ho2.mono hx1.size⟩
/-- The row of a change, if it is one. -/
def chgV (n : Int) (c : List UInt8) : Value := if IsChange n c then .tuple ⟨[S (chgL n.toNat c), .bool true]⟩ else .tuple ⟨[S [], .bool false]⟩
theorem iChangeRow_ok (n : Int) (c : List UInt8) (hc : c.length ≤ 1048576) (w : World) : Fn 23 [.int .i64 n, S c] w (fun r _ => r = chgV n c) := by
  (refine callsV_of mix Try.func23 c_iChangeRow ?_; simp only [↓vsd, vsn, gW, qd, qv, ev, pick, argE, List.map_cons, List.map_nil, Option.map_some, Option.map_none, zipE, List.cons_append, List.nil_append, ne_eq, eq_self, forall_const, implies_true, if_true, if_false, reduceIte, List.cons.injEq, reduceCtorEq, Nat.reduceEqDiff, List.length_nil, List.length_cons, Nat.reduceAdd, Nat.reduceLT, List.set_cons_zero, List.set_cons_succ, ↓us_iChangeRow, r_iChangeRow])
  refine m_call (iGoodChange_ok n c hc _) ?_
  rintro _ w1 hx1 rfl
  by_cases h : IsChange n c
  · obtain ⟨k, rfl⟩ : ∃ k : Nat, n = k := ⟨n.toNat, by have := h.1; omega⟩
    simp only [↓vsd, vsn, gW, qd, qv, ev, pick, argE, List.map_cons, List.map_nil, Option.map_some, Option.map_none, zipE, List.cons_append, List.nil_append, ne_eq, eq_self, forall_const, implies_true, if_true, if_false, reduceIte, List.cons.injEq, reduceCtorEq, Nat.reduceEqDiff, List.length_nil, List.length_cons, Nat.reduceAdd, Nat.reduceLT, List.set_cons_zero, List.set_cons_succ, ↓us_iChangeRow, r_iChangeRow, h]
    refine m_call (ichangeRow_ok k c (by have := h.1; omega) hc h.dig _) ?_
    rintro _ w2 hx2 rfl
    simp only [↓vsd, vsn, gW, qd, qv, ev, pick, argE, List.map_cons, List.map_nil, Option.map_some, Option.map_none, zipE, List.cons_append, List.nil_append, ne_eq, eq_self, forall_const, implies_true, if_true, if_false, reduceIte, List.cons.injEq, reduceCtorEq, Nat.reduceEqDiff, List.length_nil, List.length_cons, Nat.reduceAdd, Nat.reduceLT, List.set_cons_zero, List.set_cons_succ, ↓us_iChangeRow, r_iChangeRow]
    exact ⟨hx1.trans hx2, by rw [chgV, if_pos h]; rfl⟩
  · simp only [↓vsd, vsn, gW, qd, qv, ev, pick, argE, List.map_cons, List.map_nil, Option.map_some, Option.map_none, zipE, List.cons_append, List.nil_append, ne_eq, eq_self, forall_const, implies_true, if_true, if_false, reduceIte, List.cons.injEq, reduceCtorEq, Nat.reduceEqDiff, List.length_nil, List.length_cons, Nat.reduceAdd, Nat.reduceLT, List.set_cons_zero, List.set_cons_succ, ↓us_iChangeRow, r_iChangeRow, h]
    exact ⟨hx1, by rw [chgV, if_neg h]⟩
theorem sChangeRow_ok (n : Int) (c : List UInt8) (hc : c.length ≤ 1048576) (w : World) : Fn 24 [.int .i64 n, S c] w (fun r _ => r = chgV n c) := by
  (refine callsV_of mix Try.func24 c_sChangeRow ?_; simp only [↓vsd, vsn, gW, qd, qv, ev, pick, argE, List.map_cons, List.map_nil, Option.map_some, Option.map_none, zipE, List.cons_append, List.nil_append, ne_eq, eq_self, forall_const, implies_true, if_true, if_false, reduceIte, List.cons.injEq, reduceCtorEq, Nat.reduceEqDiff, List.length_nil, List.length_cons, Nat.reduceAdd, Nat.reduceLT, List.set_cons_zero, List.set_cons_succ, ↓us_sChangeRow, r_sChangeRow])
  refine m_call (sl2Change_ok n c hc _) ?_
  rintro _ w1 hx1 rfl
  by_cases h : IsChange n c
  · obtain ⟨k, rfl⟩ : ∃ k : Nat, n = k := ⟨n.toNat, by have := h.1; omega⟩
    simp only [↓vsd, vsn, gW, qd, qv, ev, pick, argE, List.map_cons, List.map_nil, Option.map_some, Option.map_none, zipE, List.cons_append, List.nil_append, ne_eq, eq_self, forall_const, implies_true, if_true, if_false, reduceIte, List.cons.injEq, reduceCtorEq, Nat.reduceEqDiff, List.length_nil, List.length_cons, Nat.reduceAdd, Nat.reduceLT, List.set_cons_zero, List.set_cons_succ, ↓us_sChangeRow, r_sChangeRow, h]
    refine m_call (sl2Row_ok k c (by have := h.1; omega) hc _) ?_
    rintro _ w2 hx2 rfl
    simp only [↓vsd, vsn, gW, qd, qv, ev, pick, argE, List.map_cons, List.map_nil, Option.map_some, Option.map_none, zipE, List.cons_append, List.nil_append, ne_eq, eq_self, forall_const, implies_true, if_true, if_false, reduceIte, List.cons.injEq, reduceCtorEq, Nat.reduceEqDiff, List.length_nil, List.length_cons, Nat.reduceAdd, Nat.reduceLT, List.set_cons_zero, List.set_cons_succ, ↓us_sChangeRow, r_sChangeRow]
    exact ⟨hx1.trans hx2, by rw [chgV, if_pos h]; rfl⟩
  · simp only [↓vsd, vsn, gW, qd, qv, ev, pick, argE, List.map_cons, List.map_nil, Option.map_some, Option.map_none, zipE, List.cons_append, List.nil_append, ne_eq, eq_self, forall_const, implies_true, if_true, if_false, reduceIte, List.cons.injEq, reduceCtorEq, Nat.reduceEqDiff, List.length_nil, List.length_cons, Nat.reduceAdd, Nat.reduceLT, List.set_cons_zero, List.set_cons_succ, ↓us_sChangeRow, r_sChangeRow, h]
    exact ⟨hx1, by rw [chgV, if_neg h]⟩
/-- The row under a change, if both are good. -/
def aplV (r c : List UInt8) : Value := if IsRow r ∧ IsChange r.length c then .tuple ⟨[S (applyL r c), .bool true]⟩ else .tuple ⟨[S [], .bool false]⟩
theorem iApply_ok (r c : List UInt8) (hc : c.length ≤ 1048576) (w : World) : Fn 17 [S r, S c] w (fun v _ => v = aplV r c) := by
  (refine callsV_of mix Try.func17 c_iApply ?_; simp only [↓vsd, vsn, gW, qd, qv, ev, pick, argE, List.map_cons, List.map_nil, Option.map_some, Option.map_none, zipE, List.cons_append, List.nil_append, ne_eq, eq_self, forall_const, implies_true, if_true, if_false, reduceIte, List.cons.injEq, reduceCtorEq, Nat.reduceEqDiff, List.length_nil, List.length_cons, Nat.reduceAdd, Nat.reduceLT, List.set_cons_zero, List.set_cons_succ, ↓us_iApply, r_iApply])
  refine m_call (iGoodRow_ok r _) ?_
  rintro _ w1 hx1 rfl
  by_cases hr : IsRow r
  · simp only [↓vsd, vsn, gW, qd, qv, ev, pick, argE, List.map_cons, List.map_nil, Option.map_some, Option.map_none, zipE, List.cons_append, List.nil_append, ne_eq, eq_self, forall_const, implies_true, if_true, if_false, reduceIte, List.cons.injEq, reduceCtorEq, Nat.reduceEqDiff, List.length_nil, List.length_cons, Nat.reduceAdd, Nat.reduceLT, List.set_cons_zero, List.set_cons_succ, ↓us_iApply, r_iApply, hr]
    refine m_call (iGoodChange_ok r.length c hc _) ?_
    rintro _ w2 hx2 rfl
    by_cases h : IsChange r.length c
    · simp only [↓vsd, vsn, gW, qd, qv, ev, pick, argE, List.map_cons, List.map_nil, Option.map_some, Option.map_none, zipE, List.cons_append, List.nil_append, ne_eq, eq_self, forall_const, implies_true, if_true, if_false, reduceIte, List.cons.injEq, reduceCtorEq, Nat.reduceEqDiff, List.length_nil, List.length_cons, Nat.reduceAdd, Nat.reduceLT, List.set_cons_zero, List.set_cons_succ, ↓us_iApply, r_iApply, h]
      refine m_call (iapply_ok r c hr hc h.dig _) ?_
      rintro _ w3 hx3 rfl
      simp only [↓vsd, vsn, gW, qd, qv, ev, pick, argE, List.map_cons, List.map_nil, Option.map_some, Option.map_none, zipE, List.cons_append, List.nil_append, ne_eq, eq_self, forall_const, implies_true, if_true, if_false, reduceIte, List.cons.injEq, reduceCtorEq, Nat.reduceEqDiff, List.length_nil, List.length_cons, Nat.reduceAdd, Nat.reduceLT, List.set_cons_zero, List.set_cons_succ, ↓us_iApply, r_iApply]
      exact ⟨(hx1.trans hx2).trans hx3, by rw [aplV, if_pos ⟨hr, h⟩]⟩
    · simp only [↓vsd, vsn, gW, qd, qv, ev, pick, argE, List.map_cons, List.map_nil, Option.map_some, Option.map_none, zipE, List.cons_append, List.nil_append, ne_eq, eq_self, forall_const, implies_true, if_true, if_false, reduceIte, List.cons.injEq, reduceCtorEq, Nat.reduceEqDiff, List.length_nil, List.length_cons, Nat.reduceAdd, Nat.reduceLT, List.set_cons_zero, List.set_cons_succ, ↓us_iApply, r_iApply, h]
      exact ⟨hx1.trans hx2, by rw [aplV, if_neg (fun hh => h hh.2)]⟩
  · simp only [↓vsd, vsn, gW, qd, qv, ev, pick, argE, List.map_cons, List.map_nil, Option.map_some, Option.map_none, zipE, List.cons_append, List.nil_append, ne_eq, eq_self, forall_const, implies_true, if_true, if_false, reduceIte, List.cons.injEq, reduceCtorEq, Nat.reduceEqDiff, List.length_nil, List.length_cons, Nat.reduceAdd, Nat.reduceLT, List.set_cons_zero, List.set_cons_succ, ↓us_iApply, r_iApply, hr]
    exact ⟨hx1, by rw [aplV, if_neg (fun hh => hr hh.1)]⟩
theorem sApply_ok (r c : List UInt8) (hc : c.length ≤ 1048576) (w : World) : Fn 18 [S r, S c] w (fun v _ => v = aplV r c) := by
  (refine callsV_of mix Try.func18 c_sApply ?_; simp only [↓vsd, vsn, gW, qd, qv, ev, pick, argE, List.map_cons, List.map_nil, Option.map_some, Option.map_none, zipE, List.cons_append, List.nil_append, ne_eq, eq_self, forall_const, implies_true, if_true, if_false, reduceIte, List.cons.injEq, reduceCtorEq, Nat.reduceEqDiff, List.length_nil, List.length_cons, Nat.reduceAdd, Nat.reduceLT, List.set_cons_zero, List.set_cons_succ, ↓us_sApply, r_sApply])
  refine m_call (sl1Row_ok r _) ?_
  rintro _ w1 hx1 rfl
  by_cases hr : IsRow r
  · simp only [↓vsd, vsn, gW, qd, qv, ev, pick, argE, List.map_cons, List.map_nil, Option.map_some, Option.map_none, zipE, List.cons_append, List.nil_append, ne_eq, eq_self, forall_const, implies_true, if_true, if_false, reduceIte, List.cons.injEq, reduceCtorEq, Nat.reduceEqDiff, List.length_nil, List.length_cons, Nat.reduceAdd, Nat.reduceLT, List.set_cons_zero, List.set_cons_succ, ↓us_sApply, r_sApply, hr]
    refine m_call (sl2Change_ok r.length c hc _) ?_
    rintro _ w2 hx2 rfl
    by_cases h : IsChange r.length c
    · simp only [↓vsd, vsn, gW, qd, qv, ev, pick, argE, List.map_cons, List.map_nil, Option.map_some, Option.map_none, zipE, List.cons_append, List.nil_append, ne_eq, eq_self, forall_const, implies_true, if_true, if_false, reduceIte, List.cons.injEq, reduceCtorEq, Nat.reduceEqDiff, List.length_nil, List.length_cons, Nat.reduceAdd, Nat.reduceLT, List.set_cons_zero, List.set_cons_succ, ↓us_sApply, r_sApply, h]
      refine m_call (sl2Apply_ok r c hr hc _) ?_
      rintro _ w3 hx3 rfl
      simp only [↓vsd, vsn, gW, qd, qv, ev, pick, argE, List.map_cons, List.map_nil, Option.map_some, Option.map_none, zipE, List.cons_append, List.nil_append, ne_eq, eq_self, forall_const, implies_true, if_true, if_false, reduceIte, List.cons.injEq, reduceCtorEq, Nat.reduceEqDiff, List.length_nil, List.length_cons, Nat.reduceAdd, Nat.reduceLT, List.set_cons_zero, List.set_cons_succ, ↓us_sApply, r_sApply]
      exact ⟨(hx1.trans hx2).trans hx3, by rw [aplV, if_pos ⟨hr, h⟩]⟩
    · simp only [↓vsd, vsn, gW, qd, qv, ev, pick, argE, List.map_cons, List.map_nil, Option.map_some, Option.map_none, zipE, List.cons_append, List.nil_append, ne_eq, eq_self, forall_const, implies_true, if_true, if_false, reduceIte, List.cons.injEq, reduceCtorEq, Nat.reduceEqDiff, List.length_nil, List.length_cons, Nat.reduceAdd, Nat.reduceLT, List.set_cons_zero, List.set_cons_succ, ↓us_sApply, r_sApply, h]
      exact ⟨hx1.trans hx2, by rw [aplV, if_neg (fun hh => h hh.2)]⟩
  · simp only [↓vsd, vsn, gW, qd, qv, ev, pick, argE, List.map_cons, List.map_nil, Option.map_some, Option.map_none, zipE, List.cons_append, List.nil_append, ne_eq, eq_self, forall_const, implies_true, if_true, if_false, reduceIte, List.cons.injEq, reduceCtorEq, Nat.reduceEqDiff, List.length_nil, List.length_cons, Nat.reduceAdd, Nat.reduceLT, List.set_cons_zero, List.set_cons_succ, ↓us_sApply, r_sApply, hr]
    exact ⟨hx1, by rw [aplV, if_neg (fun hh => hr hh.1)]⟩
theorem sGoodChange_ok (n : Int) (c : List UInt8) (hc : c.length ≤ 1048576) (w : World) : Fn 28 [.int .i64 n, S c] w (fun r _ => r = .bool (decide (IsChange n c))) := by
  (refine callsV_of mix Try.func28 c_sGoodChange ?_; simp only [↓vsd, vsn, gW, qd, qv, ev, pick, argE, List.map_cons, List.map_nil, Option.map_some, Option.map_none, zipE, List.cons_append, List.nil_append, ne_eq, eq_self, forall_const, implies_true, if_true, if_false, reduceIte, List.cons.injEq, reduceCtorEq, Nat.reduceEqDiff, List.length_nil, List.length_cons, Nat.reduceAdd, Nat.reduceLT, List.set_cons_zero, List.set_cons_succ, ↓us_sGoodChange, r_sGoodChange])
  refine m_call (sl2Change_ok n c hc _) ?_
  rintro _ w1 hx1 rfl
  simp only [↓vsd, vsn, gW, qd, qv, ev, pick, argE, List.map_cons, List.map_nil, Option.map_some, Option.map_none, zipE, List.cons_append, List.nil_append, ne_eq, eq_self, forall_const, implies_true, if_true, if_false, reduceIte, List.cons.injEq, reduceCtorEq, Nat.reduceEqDiff, List.length_nil, List.length_cons, Nat.reduceAdd, Nat.reduceLT, List.set_cons_zero, List.set_cons_succ, ↓us_sGoodChange, r_sGoodChange]
  exact hx1
/-- What between answers. -/
def btwV : Option (List UInt8 × Bool) → Value
  | none => .tuple ⟨[S [], .bool false]⟩
  | some (c, s) => .tuple ⟨[S (if c = [] then [45] else c), .bool s]⟩
theorem ibetween_ok (a b : List UInt8) (ha : IsRow a) (hl : a.length = b.length) (w : World) : Fn 155 [S a, S b] w (fun r _ => r = btwV (btw a b (a.length + 1) 0 [] false)) := by
  have h8 := ha.1
  (refine callsV_of mix Try.func155 c_ibetween ?_; simp only [↓vsd, vsn, gW, qd, qv, ev, pick, argE, List.map_cons, List.map_nil, Option.map_some, Option.map_none, zipE, List.cons_append, List.nil_append, ne_eq, eq_self, forall_const, implies_true, if_true, if_false, reduceIte, List.cons.injEq, reduceCtorEq, Nat.reduceEqDiff, List.length_nil, List.length_cons, Nat.reduceAdd, Nat.reduceLT, List.set_cons_zero, List.set_cons_succ, ↓us_ibetween, r_ibetween])
  refine m_loop (fun m us w' => ∃ (i : Nat) (c : List UInt8) (s : Bool), a.length + 1 ≤ m + i ∧ i ≤ a.length ∧ us = [S c, .bool s, .int .i64 i] ∧ c.length ≤ i ∧ btw a b m i c s = btw a b (a.length + 1) 0 [] false ∧ Ext w w') (a.length + 1) ⟨0, [], false, Nat.le_refl _, Nat.zero_le _, rfl, Nat.le_refl _, rfl, Ext.refl _⟩ ?_
  rintro m us w1 ⟨i, c, s, hmi, hi, rfl, hcl, hb, hx⟩
  obtain ⟨f, rfl⟩ : ∃ f, m = f + 1 := ⟨m - 1, by omega⟩
  by_cases hlt : i < a.length
  · have hltI : (i : Int) < a.length := by omega
    simp only [↓vsd, vsn, gW, qd, qv, ev, pick, argE, List.map_cons, List.map_nil, Option.map_some, Option.map_none, zipE, List.cons_append, List.nil_append, ne_eq, eq_self, forall_const, implies_true, if_true, if_false, reduceIte, List.cons.injEq, reduceCtorEq, Nat.reduceEqDiff, List.length_nil, List.length_cons, Nat.reduceAdd, Nat.reduceLT, List.set_cons_zero, List.set_cons_succ, ↓us_ibetween, r_ibetween, hltI]
    rw [btw, if_pos hlt] at hb
    refine ⟨by omega, by omega, fun he => ?_, fun hne => ?_⟩
    · rw [if_pos (UInt8.toNat_inj.1 (by omega))] at hb
      refine m_call (irounds_ok a.length (by omega) _) ?_
      rintro _ w2 hx2 rfl
      have hso := sub_one (roundsL a.length) i (by rw [roundsL_len]; exact hlt)
      have hrl := roundsL_len a.length
      simp only [↓vsd, vsn, gW, qd, qv, ev, pick, argE, List.map_cons, List.map_nil, Option.map_some, Option.map_none, zipE, List.cons_append, List.nil_append, ne_eq, eq_self, forall_const, implies_true, if_true, if_false, reduceIte, List.cons.injEq, reduceCtorEq, Nat.reduceEqDiff, List.length_nil, List.length_cons, Nat.reduceAdd, Nat.reduceLT, List.set_cons_zero, List.set_cons_succ, ↓us_ibetween, r_ibetween, hrl]
      rw [hso, roundsL_get _ _ hlt]
      exact ⟨inR_i64 (by omega), by omega, by simp only [List.length_cons, List.length_nil]; omega, inR_i64 (by omega), f, by omega, i + 1, _, s, by omega, by omega, ⟨rfl, rfl, rfl⟩, by rw [List.length_append]; simp; omega, hb, hx.trans (ud hx2)⟩
    · rw [if_neg (fun e => hne (by rw [e]))] at hb
      by_cases h2 : i + 1 < a.length ∧ a.getD i 0 = b.getD (i + 1) 0 ∧ a.getD (i + 1) 0 = b.getD i 0
      · rw [if_pos h2] at hb
        have h3 := h2.1
        exact ⟨inR_i64 (by omega), fun _ => by omega, fun _ => inR_i64 (by omega), fun _ => by omega, fun _ => inR_i64 (by omega), fun _ => by omega, fun _ => by omega, fun _ => ⟨inR_i64 (by omega), inR_i64 (by omega), f, by omega, i + 2, c, true, by omega, by omega, ⟨rfl, rfl, rfl⟩, by omega, hb, by first | exact hx | exact dr hx⟩, fun hno => absurd ⟨⟨by omega, by rw [h2.2.1]⟩, by rw [h2.2.2]⟩ hno⟩
      · rw [if_neg h2] at hb
        exact ⟨inR_i64 (by omega), fun _ => by omega, fun _ => inR_i64 (by omega), fun _ => by omega, fun _ => inR_i64 (by omega), fun _ => by omega, fun _ => by omega, fun hh => absurd ⟨by have := hh.1.1; omega, UInt8.toNat_inj.1 (by have := hh.1.2; omega), UInt8.toNat_inj.1 (by have := hh.2; omega)⟩ h2, fun _ => ⟨by first | exact hx | exact dr hx, by rw [← hb]; rfl⟩⟩
  · obtain rfl : i = a.length := by omega
    have hltI : ¬ (a.length : Int) < a.length := by omega
    simp only [↓vsd, vsn, gW, qd, qv, ev, pick, argE, List.map_cons, List.map_nil, Option.map_some, Option.map_none, zipE, List.cons_append, List.nil_append, ne_eq, eq_self, forall_const, implies_true, if_true, if_false, reduceIte, List.cons.injEq, reduceCtorEq, Nat.reduceEqDiff, List.length_nil, List.length_cons, Nat.reduceAdd, Nat.reduceLT, List.set_cons_zero, List.set_cons_succ, ↓us_ibetween, r_ibetween, hltI]
    rw [btw, if_neg (by omega)] at hb
    rw [← hb]
    exact ⟨fun he => ⟨hx, by rw [btwV, if_pos he]⟩, fun hne => ⟨hx, by rw [btwV, if_neg hne]⟩⟩
theorem iBetweenRows_ok (a b c : List UInt8) (ha : IsRow a) (hb : IsRow b) (hl : a.length = b.length) (h : btwV (btw a b (a.length + 1) 0 [] false) = .tuple ⟨[S c, .bool true]⟩) (w : World) : Fn 19 [S a, S b] w (fun r _ => r = .tuple ⟨[S c, .bool true]⟩) := by
  (refine callsV_of mix Try.func19 c_iBetweenRows ?_; simp only [↓vsd, vsn, gW, qd, qv, ev, pick, argE, List.map_cons, List.map_nil, Option.map_some, Option.map_none, zipE, List.cons_append, List.nil_append, ne_eq, eq_self, forall_const, implies_true, if_true, if_false, reduceIte, List.cons.injEq, reduceCtorEq, Nat.reduceEqDiff, List.length_nil, List.length_cons, Nat.reduceAdd, Nat.reduceLT, List.set_cons_zero, List.set_cons_succ, ↓us_iBetweenRows, r_iBetweenRows])
  refine m_call (iGoodRow_ok a _) ?_
  rintro _ w1 hx1 rfl
  simp only [↓vsd, vsn, gW, qd, qv, ev, pick, argE, List.map_cons, List.map_nil, Option.map_some, Option.map_none, zipE, List.cons_append, List.nil_append, ne_eq, eq_self, forall_const, implies_true, if_true, if_false, reduceIte, List.cons.injEq, reduceCtorEq, Nat.reduceEqDiff, List.length_nil, List.length_cons, Nat.reduceAdd, Nat.reduceLT, List.set_cons_zero, List.set_cons_succ, ↓us_iBetweenRows, r_iBetweenRows, ha]
  refine m_call (iisRowOf_ok a.length b _) ?_
  rintro _ w2 hx2 rfl
  have hlI : (b.length : Int) = a.length := by omega
  simp only [↓vsd, vsn, gW, qd, qv, ev, pick, argE, List.map_cons, List.map_nil, Option.map_some, Option.map_none, zipE, List.cons_append, List.nil_append, ne_eq, eq_self, forall_const, implies_true, if_true, if_false, reduceIte, List.cons.injEq, reduceCtorEq, Nat.reduceEqDiff, List.length_nil, List.length_cons, Nat.reduceAdd, Nat.reduceLT, List.set_cons_zero, List.set_cons_succ, ↓us_iBetweenRows, r_iBetweenRows, hb, hlI]
  refine m_call (ibetween_ok a b ha hl _) ?_
  rintro r w3 hx3 hr
  rw [h] at hr
  subst hr
  simp only [↓vsd, vsn, gW, qd, qv, ev, pick, argE, List.map_cons, List.map_nil, Option.map_some, Option.map_none, zipE, List.cons_append, List.nil_append, ne_eq, eq_self, forall_const, implies_true, if_true, if_false, reduceIte, List.cons.injEq, reduceCtorEq, Nat.reduceEqDiff, List.length_nil, List.length_cons, Nat.reduceAdd, Nat.reduceLT, List.set_cons_zero, List.set_cons_succ, ↓us_iBetweenRows, r_iBetweenRows]
  exact (hx1.trans hx2).trans hx3
/-- The mirrored digit of a place. -/
def mD (n : Nat) (x : Int) : UInt8 := UInt8.ofNat (49 + (n - x.toNat))
def outM (n : Nat) (l : List Int) : List UInt8 := (l.map (mD n)).reverse
theorem outM_snoc (n : Nat) (l : List Int) (i : Nat) (h : i < l.length) : outM n (l.take (i + 1)) = mD n (l.getD i 0) :: outM n (l.take i) := by
  rw [outM, List.take_add_one, List.getElem?_eq_getElem h, List.getD_eq_getElem?_getD, List.getElem?_eq_getElem h, List.map_append, List.reverse_append]
  rfl
theorem mir_out {n : Nat} {c : List UInt8} (h : IsChange n c) : (if outM n (plC c) = [] then [45] else outM n (plC c)) = mirC n c := by
  have hm := by_mask (P := fun n bs => (if outM n (plC (chgOfB bs)) = [] then [45] else outM n (plC (chgOfB bs))) = mirC n (chgOfB bs)) (by decide +kernel) h
  rw [← change_mask h] at hm
  exact hm
def mirV (n : Int) (c : List UInt8) : Value := if IsChange n c then .tuple ⟨[S (mirC n.toNat c), .bool true]⟩ else .tuple ⟨[S [], .bool false]⟩
theorem iMirrorChange_ok (n : Int) (c : List UInt8) (hc : c.length ≤ 1048576) (w : World) : Fn 25 [.int .i64 n, S c] w (fun r _ => r = mirV n c) := by
  (refine callsV_of mix Try.func25 c_iMirrorChange ?_; simp only [↓vsd, vsn, gW, qd, qv, ev, pick, argE, List.map_cons, List.map_nil, Option.map_some, Option.map_none, zipE, List.cons_append, List.nil_append, ne_eq, eq_self, forall_const, implies_true, if_true, if_false, reduceIte, List.cons.injEq, reduceCtorEq, Nat.reduceEqDiff, List.length_nil, List.length_cons, Nat.reduceAdd, Nat.reduceLT, List.set_cons_zero, List.set_cons_succ, ↓us_iMirrorChange, r_iMirrorChange])
  refine m_call (iGoodChange_ok n c hc _) ?_
  rintro _ w1 hx1 rfl
  by_cases h : IsChange n c
  · obtain ⟨k, rfl⟩ : ∃ k : Nat, n = k := ⟨n.toNat, by have := h.1; omega⟩
    simp only [↓vsd, vsn, gW, qd, qv, ev, pick, argE, List.map_cons, List.map_nil, Option.map_some, Option.map_none, zipE, List.cons_append, List.nil_append, ne_eq, eq_self, forall_const, implies_true, if_true, if_false, reduceIte, List.cons.injEq, reduceCtorEq, Nat.reduceEqDiff, List.length_nil, List.length_cons, Nat.reduceAdd, Nat.reduceLT, List.set_cons_zero, List.set_cons_succ, ↓us_iMirrorChange, r_iMirrorChange, h]
    refine m_call (iplacesOf_okx c hc h.dig _) ?_
    rintro x w2 hx2 ho2
    simp only [↓vsd, vsn, gW, qd, qv, ev, pick, argE, List.map_cons, List.map_nil, Option.map_some, Option.map_none, zipE, List.cons_append, List.nil_append, ne_eq, eq_self, forall_const, implies_true, if_true, if_false, reduceIte, List.cons.injEq, reduceCtorEq, Nat.reduceEqDiff, List.length_nil, List.length_cons, Nat.reduceAdd, Nat.reduceLT, List.set_cons_zero, List.set_cons_succ, ↓us_iMirrorChange, r_iMirrorChange, ho2.sq.facts]
    have h8 := h.1
    have hpf := (pairs_facts h).2.2.1
    have hlen := (pairs_facts h).1
    have hmo := mir_out h
    generalize hL : plC c = L at *
    refine m_upto L.length (fun i vs w' => vs = [S (outM k (L.take i)), .int .i64 i] ∧ Ext w2 w') ⟨rfl, Ext.refl _⟩ ?_
    rintro i vs w3 hi ⟨rfl, hx⟩
    have hq := ho2.sq.ext hx
    have hol : (outM k (L.take i)).length ≤ i := by rw [outM, List.length_reverse, List.length_map, List.length_take]; omega
    by_cases hlt : i < L.length
    · have hltI : (i : Int) < L.length := by omega
      have hltJ : ¬ (L.length : Int) ≤ i := by omega
      have hp := hpf _ (getD_mem 0 hlt)
      obtain ⟨p, hpe⟩ : ∃ p : Nat, L.getD i 0 = p := ⟨(L.getD i 0).toNat, by omega⟩
      have hs := outM_snoc k L i hlt
      rw [hpe] at hp hs
      simp only [↓vsd, vsn, gW, qd, qv, ev, pick, argE, List.map_cons, List.map_nil, Option.map_some, Option.map_none, zipE, List.cons_append, List.nil_append, ne_eq, eq_self, forall_const, implies_true, if_true, if_false, reduceIte, List.cons.injEq, reduceCtorEq, Nat.reduceEqDiff, List.length_nil, List.length_cons, Nat.reduceAdd, Nat.reduceLT, List.set_cons_zero, List.set_cons_succ, ↓us_iMirrorChange, r_iMirrorChange, hltI, hltJ, hq.facts, hq.at1 0 hlt, hpe]
      refine ⟨by omega, m_call (irounds_ok k (by omega) _) ?_⟩
      rintro _ w4 hx4 rfl
      obtain ⟨q, hqe⟩ : ∃ q : Nat, (k : Int) - p = q := ⟨k - p, by omega⟩
      have hqp : q = k - p := by omega
      have hrl := roundsL_len k
      have hso := sub_one (roundsL k) q (by rw [hrl]; omega)
      simp only [↓vsd, vsn, gW, qd, qv, ev, pick, argE, List.map_cons, List.map_nil, Option.map_some, Option.map_none, zipE, List.cons_append, List.nil_append, ne_eq, eq_self, forall_const, implies_true, if_true, if_false, reduceIte, List.cons.injEq, reduceCtorEq, Nat.reduceEqDiff, List.length_nil, List.length_cons, Nat.reduceAdd, Nat.reduceLT, List.set_cons_zero, List.set_cons_succ, ↓us_iMirrorChange, r_iMirrorChange, hrl, hqe]
      rw [hso, roundsL_get _ _ (by omega)]
      have hmD : mD k (p : Int) = UInt8.ofNat (49 + q) := by rw [mD, Int.toNat_natCast, hqp]
      exact ⟨inR_i64 (by omega), inR_i64 (by omega), inR_i64 (by omega), by omega, by simp only [List.length_cons, List.length_nil]; omega, inR_i64 (by omega), UpTo.next hlt ⟨by rw [hs, hmD]; rfl, by first | exact hx.trans hx4 | exact hx.trans (ud hx4)⟩⟩
    · obtain rfl : i = L.length := by omega
      have hltI : ¬ (L.length : Int) < L.length := by omega
      simp only [↓vsd, vsn, gW, qd, qv, ev, pick, argE, List.map_cons, List.map_nil, Option.map_some, Option.map_none, zipE, List.cons_append, List.nil_append, ne_eq, eq_self, forall_const, implies_true, if_true, if_false, reduceIte, List.cons.injEq, reduceCtorEq, Nat.reduceEqDiff, List.length_nil, List.length_cons, Nat.reduceAdd, Nat.reduceLT, List.set_cons_zero, List.set_cons_succ, ↓us_iMirrorChange, r_iMirrorChange, hltI]
      rw [List.take_length]
      have hx12 := hx1.trans (hx2.trans hx)
      refine ⟨fun he => ⟨hx12, ?_⟩, fun hne => ⟨hx12, ?_⟩⟩
      · rw [mirV, if_pos h, Int.toNat_natCast, ← hmo, if_pos he]
      · rw [mirV, if_pos h, Int.toNat_natCast, ← hmo, if_neg hne]
  · simp only [↓vsd, vsn, gW, qd, qv, ev, pick, argE, List.map_cons, List.map_nil, Option.map_some, Option.map_none, zipE, List.cons_append, List.nil_append, ne_eq, eq_self, forall_const, implies_true, if_true, if_false, reduceIte, List.cons.injEq, reduceCtorEq, Nat.reduceEqDiff, List.length_nil, List.length_cons, Nat.reduceAdd, Nat.reduceLT, List.set_cons_zero, List.set_cons_succ, ↓us_iMirrorChange, r_iMirrorChange, h]
    exact ⟨hx1, by rw [mirV, if_neg h]⟩
end Go.Proofs.Ytjcnmobdlkmaeaa
