/-
  The heads of a touch, of both sides.
  Conditions: none.
-/
import Derived.Test.YtfklonhjgkahdaaKA30
import Derived.Test.YtfklonhjgkahdaaKA31
import Derived.Test.YtfklonhjgkahdaaKPt
set_option linter.unusedSimpArgs false
set_option linter.unusedVariables false
set_option linter.defProp false
namespace Go.Proofs.Ytfklonhjgkahdaa
open Go Go.RowKit
section
variable (P : Program) (k : KT) (e : Env) (w : World)
abbrev b62_1 : X := (.reg [2, 7, 8, 9, 28, 29] (.c (.q 39 [] (.mv (.t 9))) (.c (.q 40 [] (.mv (.t 8))) (.c (.e (some 41) [] (.bsl 9 1 [(.t 40)])) (.c (.e (some 42) [] (.app 24 9 1 16 [(S [])] 24 (.t 39) (.t 41))) (.c (.q 9 [] (.mv (.t 42))) .nil))))))
def t62_1 := b62_1
theorem u62_1 : vcK P t62_1 k e w = vcK P b62_1 k e w := rfl
abbrev b62_2 : X := (.seq (.reg [2, 7, 8, 9, 28, 29] (.c (.q 32 [] (.mv (.t 8))) (.c (.q 33 [] (.mv (.t 7))) (.c (.q 34 [] (.mv (.t 2))) (.c (.q 35 [] (.mv (.t 10))) (.c (.q 36 [] (.idx (.t 34) (.t 35))) (.c (.q 37 [] (.mlk false (.int .u8) (S []) (.t 33) (.t 36))) (.c (.e (some 38) [] (.call false 90 [(.t 32), (.t 37)])) (.c (.q 8 [] (.mv (.t 38))) .nil))))))))) t62_1)
def t62_2 := b62_2
theorem u62_2 : vcK P t62_2 k e w = vcK P b62_2 k e w := rfl
abbrev b62_3 : X := (.reg [2, 7, 8, 9, 28, 29] (.c (.q 43 [] (.bin .add (.t 29) (.c (.int .i64 1)))) (.c (.q 29 [] (.mv (.t 43))) .nil)))
def t62_3 := b62_3
theorem u62_3 : vcK P t62_3 k e w = vcK P b62_3 k e w := rfl
abbrev b62_4 : X := (.seq (.blk 1 (.seq (.reg [2, 7, 8, 9, 10, 28, 29] (.c (.q 31 [] (.mv (.t 29))) (.c (.q 10 [] (.mv (.t 31))) .nil))) t62_2)) t62_3)
def t62_4 := b62_4
theorem u62_4 : vcK P t62_4 k e w = vcK P b62_4 k e w := rfl
abbrev b62_5 : X := (.seq (.cond (.t 30) .skip (.exit 0)) t62_4)
def t62_5 := b62_5
theorem u62_5 : vcK P t62_5 k e w = vcK P b62_5 k e w := rfl
abbrev b62_6 : X := (.seq (.reg [2, 7, 8, 9, 28, 29, 30] (.c (.q 30 [] (.bin .lss (.t 29) (.t 28))) .nil)) t62_5)
def t62_6 := b62_6
theorem u62_6 : vcK P t62_6 k e w = vcK P b62_6 k e w := rfl
abbrev b62_7 : X := (.blk 0 (.loop [8, 9, 29] [2, 7, 28] t62_6))
def t62_7 := b62_7
theorem u62_7 : vcK P t62_7 k e w = vcK P b62_7 k e w := rfl
abbrev b62_8 : X := (.seq (.reg [6] (.c (.q 44 [] (.mv (.t 9))) (.c (.q 6 [] (.mv (.t 44))) .nil))) .ret)
def t62_8 := b62_8
theorem u62_8 : vcK P t62_8 k e w = vcK P b62_8 k e w := rfl
abbrev b62_9 : X := (.seq (.seq (.reg [2, 7, 8, 9, 28, 29] (.c (.q 27 [] (.mv (.t 2))) (.c (.q 28 [] (.len (.t 27))) (.c (.q 29 [] (.mv (.c (.int .i64 0)))) .nil)))) t62_7) t62_8)
def t62_9 := b62_9
theorem u62_9 : vcK P t62_9 k e w = vcK P b62_9 k e w := rfl
abbrev b62_10 : X := (.seq (.reg [2, 7, 8, 9] (.c (.q 25 [] (.mv (.t 8))) (.c (.e (some 26) [] (.bsl 9 1 [(.t 25)])) (.c (.q 9 [] (.mv (.t 26))) .nil)))) t62_9)
def t62_10 := b62_10
theorem u62_10 : vcK P t62_10 k e w = vcK P b62_10 k e w := rfl
abbrev b62_11 : X := (.seq (.reg [2, 7, 8] (.c (.q 22 [] (.fa 1 (.t 3))) (.c (.q 23 [] (.ld (.t 22))) (.c (.e (some 24) [] (.call false 44 [(.t 23)])) (.c (.q 8 [] (.mv (.t 24))) .nil))))) t62_10)
def t62_11 := b62_11
theorem u62_11 : vcK P t62_11 k e w = vcK P b62_11 k e w := rfl
abbrev b62_12 : X := (.seq (.drw [2, 3, 7] (.c (.q 12 [] (.lda 3 (.t 3))) (.c (.q 13 [] (.lda 2 (.t 4))) (.c (.q 15 [] (.lda 3 (.t 3))) (.c (.q 16 [] (.lda 2 (.t 4))) (.c (.q 18 [] (.lda 3 (.t 3))) (.c (.q 19 [] (.lda 2 (.t 4))) (.alt (.c (.e (some 11) [] .mkmap) (.c (.e (some 14) [] (.call false 89 [(.t 12), (.t 13), (.s [112])])) (.alt (.c (.e none [] (.mup true (.int .u8) (.t 11) (.c (.int .u8 112)) (.t 14))) (.c (.e (some 17) [] (.call false 89 [(.t 15), (.t 16), (.s [98])])) (.alt (.c (.e none [] (.mup true (.int .u8) (.t 11) (.c (.int .u8 98)) (.t 17))) (.c (.e (some 20) [] (.call false 89 [(.t 18), (.t 19), (.s [115])])) (.c (.e none [] (.mup true (.int .u8) (.t 11) (.c (.int .u8 115)) (.t 20))) (.c (.q 21 [] (.mv (.t 11))) (.c (.q 7 [] (.mv (.t 21))) .nil))))) (.c (.e (some 20) [] (.call false 89 [(.t 18), (.t 19), (.s [115])])) (.alt (.c (.e none [] (.mup true (.int .u8) (.t 11) (.c (.int .u8 98)) (.t 17))) (.c (.e none [] (.mup true (.int .u8) (.t 11) (.c (.int .u8 115)) (.t 20))) (.c (.q 21 [] (.mv (.t 11))) (.c (.q 7 [] (.mv (.t 21))) .nil)))) (.c (.e none [] (.mup true (.int .u8) (.t 11) (.c (.int .u8 115)) (.t 20))) (.c (.e none [] (.mup true (.int .u8) (.t 11) (.c (.int .u8 98)) (.t 17))) (.c (.q 21 [] (.mv (.t 11))) (.c (.q 7 [] (.mv (.t 21))) .nil))))))))) (.c (.e (some 17) [] (.call false 89 [(.t 15), (.t 16), (.s [98])])) (.alt (.c (.e none [] (.mup true (.int .u8) (.t 11) (.c (.int .u8 112)) (.t 14))) (.alt (.c (.e none [] (.mup true (.int .u8) (.t 11) (.c (.int .u8 98)) (.t 17))) (.c (.e (some 20) [] (.call false 89 [(.t 18), (.t 19), (.s [115])])) (.c (.e none [] (.mup true (.int .u8) (.t 11) (.c (.int .u8 115)) (.t 20))) (.c (.q 21 [] (.mv (.t 11))) (.c (.q 7 [] (.mv (.t 21))) .nil))))) (.c (.e (some 20) [] (.call false 89 [(.t 18), (.t 19), (.s [115])])) (.alt (.c (.e none [] (.mup true (.int .u8) (.t 11) (.c (.int .u8 98)) (.t 17))) (.c (.e none [] (.mup true (.int .u8) (.t 11) (.c (.int .u8 115)) (.t 20))) (.c (.q 21 [] (.mv (.t 11))) (.c (.q 7 [] (.mv (.t 21))) .nil)))) (.c (.e none [] (.mup true (.int .u8) (.t 11) (.c (.int .u8 115)) (.t 20))) (.c (.e none [] (.mup true (.int .u8) (.t 11) (.c (.int .u8 98)) (.t 17))) (.c (.q 21 [] (.mv (.t 11))) (.c (.q 7 [] (.mv (.t 21))) .nil)))))))) (.alt (.c (.e none [] (.mup true (.int .u8) (.t 11) (.c (.int .u8 98)) (.t 17))) (.alt (.c (.e none [] (.mup true (.int .u8) (.t 11) (.c (.int .u8 112)) (.t 14))) (.c (.e (some 20) [] (.call false 89 [(.t 18), (.t 19), (.s [115])])) (.c (.e none [] (.mup true (.int .u8) (.t 11) (.c (.int .u8 115)) (.t 20))) (.c (.q 21 [] (.mv (.t 11))) (.c (.q 7 [] (.mv (.t 21))) .nil))))) (.c (.e (some 20) [] (.call false 89 [(.t 18), (.t 19), (.s [115])])) (.alt (.c (.e none [] (.mup true (.int .u8) (.t 11) (.c (.int .u8 112)) (.t 14))) (.c (.e none [] (.mup true (.int .u8) (.t 11) (.c (.int .u8 115)) (.t 20))) (.c (.q 21 [] (.mv (.t 11))) (.c (.q 7 [] (.mv (.t 21))) .nil)))) (.c (.e none [] (.mup true (.int .u8) (.t 11) (.c (.int .u8 115)) (.t 20))) (.c (.e none [] (.mup true (.int .u8) (.t 11) (.c (.int .u8 112)) (.t 14))) (.c (.q 21 [] (.mv (.t 11))) (.c (.q 7 [] (.mv (.t 21))) .nil)))))))) (.c (.e (some 20) [] (.call false 89 [(.t 18), (.t 19), (.s [115])])) (.alt (.c (.e none [] (.mup true (.int .u8) (.t 11) (.c (.int .u8 112)) (.t 14))) (.alt (.c (.e none [] (.mup true (.int .u8) (.t 11) (.c (.int .u8 98)) (.t 17))) (.c (.e none [] (.mup true (.int .u8) (.t 11) (.c (.int .u8 115)) (.t 20))) (.c (.q 21 [] (.mv (.t 11))) (.c (.q 7 [] (.mv (.t 21))) .nil)))) (.c (.e none [] (.mup true (.int .u8) (.t 11) (.c (.int .u8 115)) (.t 20))) (.c (.e none [] (.mup true (.int .u8) (.t 11) (.c (.int .u8 98)) (.t 17))) (.c (.q 21 [] (.mv (.t 11))) (.c (.q 7 [] (.mv (.t 21))) .nil)))))) (.alt (.c (.e none [] (.mup true (.int .u8) (.t 11) (.c (.int .u8 98)) (.t 17))) (.alt (.c (.e none [] (.mup true (.int .u8) (.t 11) (.c (.int .u8 112)) (.t 14))) (.c (.e none [] (.mup true (.int .u8) (.t 11) (.c (.int .u8 115)) (.t 20))) (.c (.q 21 [] (.mv (.t 11))) (.c (.q 7 [] (.mv (.t 21))) .nil)))) (.c (.e none [] (.mup true (.int .u8) (.t 11) (.c (.int .u8 115)) (.t 20))) (.c (.e none [] (.mup true (.int .u8) (.t 11) (.c (.int .u8 112)) (.t 14))) (.c (.q 21 [] (.mv (.t 11))) (.c (.q 7 [] (.mv (.t 21))) .nil)))))) (.c (.e none [] (.mup true (.int .u8) (.t 11) (.c (.int .u8 115)) (.t 20))) (.alt (.c (.e none [] (.mup true (.int .u8) (.t 11) (.c (.int .u8 112)) (.t 14))) (.c (.e none [] (.mup true (.int .u8) (.t 11) (.c (.int .u8 98)) (.t 17))) (.c (.q 21 [] (.mv (.t 11))) (.c (.q 7 [] (.mv (.t 21))) .nil)))) (.c (.e none [] (.mup true (.int .u8) (.t 11) (.c (.int .u8 98)) (.t 17))) (.c (.e none [] (.mup true (.int .u8) (.t 11) (.c (.int .u8 112)) (.t 14))) (.c (.q 21 [] (.mv (.t 11))) (.c (.q 7 [] (.mv (.t 21))) .nil))))))))))))))) (.c (.e (some 14) [] (.call false 89 [(.t 12), (.t 13), (.s [112])])) (.alt (.c (.e (some 11) [] .mkmap) (.alt (.c (.e none [] (.mup true (.int .u8) (.t 11) (.c (.int .u8 112)) (.t 14))) (.c (.e (some 17) [] (.call false 89 [(.t 15), (.t 16), (.s [98])])) (.alt (.c (.e none [] (.mup true (.int .u8) (.t 11) (.c (.int .u8 98)) (.t 17))) (.c (.e (some 20) [] (.call false 89 [(.t 18), (.t 19), (.s [115])])) (.c (.e none [] (.mup true (.int .u8) (.t 11) (.c (.int .u8 115)) (.t 20))) (.c (.q 21 [] (.mv (.t 11))) (.c (.q 7 [] (.mv (.t 21))) .nil))))) (.c (.e (some 20) [] (.call false 89 [(.t 18), (.t 19), (.s [115])])) (.alt (.c (.e none [] (.mup true (.int .u8) (.t 11) (.c (.int .u8 98)) (.t 17))) (.c (.e none [] (.mup true (.int .u8) (.t 11) (.c (.int .u8 115)) (.t 20))) (.c (.q 21 [] (.mv (.t 11))) (.c (.q 7 [] (.mv (.t 21))) .nil)))) (.c (.e none [] (.mup true (.int .u8) (.t 11) (.c (.int .u8 115)) (.t 20))) (.c (.e none [] (.mup true (.int .u8) (.t 11) (.c (.int .u8 98)) (.t 17))) (.c (.q 21 [] (.mv (.t 11))) (.c (.q 7 [] (.mv (.t 21))) .nil))))))))) (.c (.e (some 17) [] (.call false 89 [(.t 15), (.t 16), (.s [98])])) (.alt (.c (.e none [] (.mup true (.int .u8) (.t 11) (.c (.int .u8 112)) (.t 14))) (.alt (.c (.e none [] (.mup true (.int .u8) (.t 11) (.c (.int .u8 98)) (.t 17))) (.c (.e (some 20) [] (.call false 89 [(.t 18), (.t 19), (.s [115])])) (.c (.e none [] (.mup true (.int .u8) (.t 11) (.c (.int .u8 115)) (.t 20))) (.c (.q 21 [] (.mv (.t 11))) (.c (.q 7 [] (.mv (.t 21))) .nil))))) (.c (.e (some 20) [] (.call false 89 [(.t 18), (.t 19), (.s [115])])) (.alt (.c (.e none [] (.mup true (.int .u8) (.t 11) (.c (.int .u8 98)) (.t 17))) (.c (.e none [] (.mup true (.int .u8) (.t 11) (.c (.int .u8 115)) (.t 20))) (.c (.q 21 [] (.mv (.t 11))) (.c (.q 7 [] (.mv (.t 21))) .nil)))) (.c (.e none [] (.mup true (.int .u8) (.t 11) (.c (.int .u8 115)) (.t 20))) (.c (.e none [] (.mup true (.int .u8) (.t 11) (.c (.int .u8 98)) (.t 17))) (.c (.q 21 [] (.mv (.t 11))) (.c (.q 7 [] (.mv (.t 21))) .nil)))))))) (.alt (.c (.e none [] (.mup true (.int .u8) (.t 11) (.c (.int .u8 98)) (.t 17))) (.alt (.c (.e none [] (.mup true (.int .u8) (.t 11) (.c (.int .u8 112)) (.t 14))) (.c (.e (some 20) [] (.call false 89 [(.t 18), (.t 19), (.s [115])])) (.c (.e none [] (.mup true (.int .u8) (.t 11) (.c (.int .u8 115)) (.t 20))) (.c (.q 21 [] (.mv (.t 11))) (.c (.q 7 [] (.mv (.t 21))) .nil))))) (.c (.e (some 20) [] (.call false 89 [(.t 18), (.t 19), (.s [115])])) (.alt (.c (.e none [] (.mup true (.int .u8) (.t 11) (.c (.int .u8 112)) (.t 14))) (.c (.e none [] (.mup true (.int .u8) (.t 11) (.c (.int .u8 115)) (.t 20))) (.c (.q 21 [] (.mv (.t 11))) (.c (.q 7 [] (.mv (.t 21))) .nil)))) (.c (.e none [] (.mup true (.int .u8) (.t 11) (.c (.int .u8 115)) (.t 20))) (.c (.e none [] (.mup true (.int .u8) (.t 11) (.c (.int .u8 112)) (.t 14))) (.c (.q 21 [] (.mv (.t 11))) (.c (.q 7 [] (.mv (.t 21))) .nil)))))))) (.c (.e (some 20) [] (.call false 89 [(.t 18), (.t 19), (.s [115])])) (.alt (.c (.e none [] (.mup true (.int .u8) (.t 11) (.c (.int .u8 112)) (.t 14))) (.alt (.c (.e none [] (.mup true (.int .u8) (.t 11) (.c (.int .u8 98)) (.t 17))) (.c (.e none [] (.mup true (.int .u8) (.t 11) (.c (.int .u8 115)) (.t 20))) (.c (.q 21 [] (.mv (.t 11))) (.c (.q 7 [] (.mv (.t 21))) .nil)))) (.c (.e none [] (.mup true (.int .u8) (.t 11) (.c (.int .u8 115)) (.t 20))) (.c (.e none [] (.mup true (.int .u8) (.t 11) (.c (.int .u8 98)) (.t 17))) (.c (.q 21 [] (.mv (.t 11))) (.c (.q 7 [] (.mv (.t 21))) .nil)))))) (.alt (.c (.e none [] (.mup true (.int .u8) (.t 11) (.c (.int .u8 98)) (.t 17))) (.alt (.c (.e none [] (.mup true (.int .u8) (.t 11) (.c (.int .u8 112)) (.t 14))) (.c (.e none [] (.mup true (.int .u8) (.t 11) (.c (.int .u8 115)) (.t 20))) (.c (.q 21 [] (.mv (.t 11))) (.c (.q 7 [] (.mv (.t 21))) .nil)))) (.c (.e none [] (.mup true (.int .u8) (.t 11) (.c (.int .u8 115)) (.t 20))) (.c (.e none [] (.mup true (.int .u8) (.t 11) (.c (.int .u8 112)) (.t 14))) (.c (.q 21 [] (.mv (.t 11))) (.c (.q 7 [] (.mv (.t 21))) .nil)))))) (.c (.e none [] (.mup true (.int .u8) (.t 11) (.c (.int .u8 115)) (.t 20))) (.alt (.c (.e none [] (.mup true (.int .u8) (.t 11) (.c (.int .u8 112)) (.t 14))) (.c (.e none [] (.mup true (.int .u8) (.t 11) (.c (.int .u8 98)) (.t 17))) (.c (.q 21 [] (.mv (.t 11))) (.c (.q 7 [] (.mv (.t 21))) .nil)))) (.c (.e none [] (.mup true (.int .u8) (.t 11) (.c (.int .u8 98)) (.t 17))) (.c (.e none [] (.mup true (.int .u8) (.t 11) (.c (.int .u8 112)) (.t 14))) (.c (.q 21 [] (.mv (.t 11))) (.c (.q 7 [] (.mv (.t 21))) .nil)))))))))))))) (.c (.e (some 17) [] (.call false 89 [(.t 15), (.t 16), (.s [98])])) (.alt (.c (.e (some 11) [] .mkmap) (.alt (.c (.e none [] (.mup true (.int .u8) (.t 11) (.c (.int .u8 112)) (.t 14))) (.alt (.c (.e none [] (.mup true (.int .u8) (.t 11) (.c (.int .u8 98)) (.t 17))) (.c (.e (some 20) [] (.call false 89 [(.t 18), (.t 19), (.s [115])])) (.c (.e none [] (.mup true (.int .u8) (.t 11) (.c (.int .u8 115)) (.t 20))) (.c (.q 21 [] (.mv (.t 11))) (.c (.q 7 [] (.mv (.t 21))) .nil))))) (.c (.e (some 20) [] (.call false 89 [(.t 18), (.t 19), (.s [115])])) (.alt (.c (.e none [] (.mup true (.int .u8) (.t 11) (.c (.int .u8 98)) (.t 17))) (.c (.e none [] (.mup true (.int .u8) (.t 11) (.c (.int .u8 115)) (.t 20))) (.c (.q 21 [] (.mv (.t 11))) (.c (.q 7 [] (.mv (.t 21))) .nil)))) (.c (.e none [] (.mup true (.int .u8) (.t 11) (.c (.int .u8 115)) (.t 20))) (.c (.e none [] (.mup true (.int .u8) (.t 11) (.c (.int .u8 98)) (.t 17))) (.c (.q 21 [] (.mv (.t 11))) (.c (.q 7 [] (.mv (.t 21))) .nil)))))))) (.alt (.c (.e none [] (.mup true (.int .u8) (.t 11) (.c (.int .u8 98)) (.t 17))) (.alt (.c (.e none [] (.mup true (.int .u8) (.t 11) (.c (.int .u8 112)) (.t 14))) (.c (.e (some 20) [] (.call false 89 [(.t 18), (.t 19), (.s [115])])) (.c (.e none [] (.mup true (.int .u8) (.t 11) (.c (.int .u8 115)) (.t 20))) (.c (.q 21 [] (.mv (.t 11))) (.c (.q 7 [] (.mv (.t 21))) .nil))))) (.c (.e (some 20) [] (.call false 89 [(.t 18), (.t 19), (.s [115])])) (.alt (.c (.e none [] (.mup true (.int .u8) (.t 11) (.c (.int .u8 112)) (.t 14))) (.c (.e none [] (.mup true (.int .u8) (.t 11) (.c (.int .u8 115)) (.t 20))) (.c (.q 21 [] (.mv (.t 11))) (.c (.q 7 [] (.mv (.t 21))) .nil)))) (.c (.e none [] (.mup true (.int .u8) (.t 11) (.c (.int .u8 115)) (.t 20))) (.c (.e none [] (.mup true (.int .u8) (.t 11) (.c (.int .u8 112)) (.t 14))) (.c (.q 21 [] (.mv (.t 11))) (.c (.q 7 [] (.mv (.t 21))) .nil)))))))) (.c (.e (some 20) [] (.call false 89 [(.t 18), (.t 19), (.s [115])])) (.alt (.c (.e none [] (.mup true (.int .u8) (.t 11) (.c (.int .u8 112)) (.t 14))) (.alt (.c (.e none [] (.mup true (.int .u8) (.t 11) (.c (.int .u8 98)) (.t 17))) (.c (.e none [] (.mup true (.int .u8) (.t 11) (.c (.int .u8 115)) (.t 20))) (.c (.q 21 [] (.mv (.t 11))) (.c (.q 7 [] (.mv (.t 21))) .nil)))) (.c (.e none [] (.mup true (.int .u8) (.t 11) (.c (.int .u8 115)) (.t 20))) (.c (.e none [] (.mup true (.int .u8) (.t 11) (.c (.int .u8 98)) (.t 17))) (.c (.q 21 [] (.mv (.t 11))) (.c (.q 7 [] (.mv (.t 21))) .nil)))))) (.alt (.c (.e none [] (.mup true (.int .u8) (.t 11) (.c (.int .u8 98)) (.t 17))) (.alt (.c (.e none [] (.mup true (.int .u8) (.t 11) (.c (.int .u8 112)) (.t 14))) (.c (.e none [] (.mup true (.int .u8) (.t 11) (.c (.int .u8 115)) (.t 20))) (.c (.q 21 [] (.mv (.t 11))) (.c (.q 7 [] (.mv (.t 21))) .nil)))) (.c (.e none [] (.mup true (.int .u8) (.t 11) (.c (.int .u8 115)) (.t 20))) (.c (.e none [] (.mup true (.int .u8) (.t 11) (.c (.int .u8 112)) (.t 14))) (.c (.q 21 [] (.mv (.t 11))) (.c (.q 7 [] (.mv (.t 21))) .nil)))))) (.c (.e none [] (.mup true (.int .u8) (.t 11) (.c (.int .u8 115)) (.t 20))) (.alt (.c (.e none [] (.mup true (.int .u8) (.t 11) (.c (.int .u8 112)) (.t 14))) (.c (.e none [] (.mup true (.int .u8) (.t 11) (.c (.int .u8 98)) (.t 17))) (.c (.q 21 [] (.mv (.t 11))) (.c (.q 7 [] (.mv (.t 21))) .nil)))) (.c (.e none [] (.mup true (.int .u8) (.t 11) (.c (.int .u8 98)) (.t 17))) (.c (.e none [] (.mup true (.int .u8) (.t 11) (.c (.int .u8 112)) (.t 14))) (.c (.q 21 [] (.mv (.t 11))) (.c (.q 7 [] (.mv (.t 21))) .nil)))))))))))) (.c (.e (some 20) [] (.call false 89 [(.t 18), (.t 19), (.s [115])])) (.c (.e (some 11) [] .mkmap) (.alt (.c (.e none [] (.mup true (.int .u8) (.t 11) (.c (.int .u8 112)) (.t 14))) (.alt (.c (.e none [] (.mup true (.int .u8) (.t 11) (.c (.int .u8 98)) (.t 17))) (.c (.e none [] (.mup true (.int .u8) (.t 11) (.c (.int .u8 115)) (.t 20))) (.c (.q 21 [] (.mv (.t 11))) (.c (.q 7 [] (.mv (.t 21))) .nil)))) (.c (.e none [] (.mup true (.int .u8) (.t 11) (.c (.int .u8 115)) (.t 20))) (.c (.e none [] (.mup true (.int .u8) (.t 11) (.c (.int .u8 98)) (.t 17))) (.c (.q 21 [] (.mv (.t 11))) (.c (.q 7 [] (.mv (.t 21))) .nil)))))) (.alt (.c (.e none [] (.mup true (.int .u8) (.t 11) (.c (.int .u8 98)) (.t 17))) (.alt (.c (.e none [] (.mup true (.int .u8) (.t 11) (.c (.int .u8 112)) (.t 14))) (.c (.e none [] (.mup true (.int .u8) (.t 11) (.c (.int .u8 115)) (.t 20))) (.c (.q 21 [] (.mv (.t 11))) (.c (.q 7 [] (.mv (.t 21))) .nil)))) (.c (.e none [] (.mup true (.int .u8) (.t 11) (.c (.int .u8 115)) (.t 20))) (.c (.e none [] (.mup true (.int .u8) (.t 11) (.c (.int .u8 112)) (.t 14))) (.c (.q 21 [] (.mv (.t 11))) (.c (.q 7 [] (.mv (.t 21))) .nil)))))) (.c (.e none [] (.mup true (.int .u8) (.t 11) (.c (.int .u8 115)) (.t 20))) (.alt (.c (.e none [] (.mup true (.int .u8) (.t 11) (.c (.int .u8 112)) (.t 14))) (.c (.e none [] (.mup true (.int .u8) (.t 11) (.c (.int .u8 98)) (.t 17))) (.c (.q 21 [] (.mv (.t 11))) (.c (.q 7 [] (.mv (.t 21))) .nil)))) (.c (.e none [] (.mup true (.int .u8) (.t 11) (.c (.int .u8 98)) (.t 17))) (.c (.e none [] (.mup true (.int .u8) (.t 11) (.c (.int .u8 112)) (.t 14))) (.c (.q 21 [] (.mv (.t 11))) (.c (.q 7 [] (.mv (.t 21))) .nil)))))))))))))))))))))) t62_11)
def t62_12 := b62_12
theorem u62_12 : vcK P t62_12 k e w = vcK P b62_12 k e w := rfl
abbrev b62_0 : X := (.seq (.reg [2, 3, 4] (.c (.e (some 3) [] (.box 44 (.t 0))) (.c (.e (some 4) [] (.box 46 (.t 1))) (.c (.q 6 [] (.mv (.c (.slice none 0 0)))) .nil)))) t62_12)
def x_iheads := b62_0
theorem u62_0 : vcK P x_iheads k e w = vcK P b62_0 k e w := rfl
def r_iheads : List XO := [(.mv (.t 6))]
theorem c_iheads : convF Try.prog [38, 39, 41, 42, 49, 54, 55, 57, 58, 59, 73, 79, 81, 84, 87, 139, 1000001] Try.f62 [([2, 3, 4], []), ([2, 3, 7], []), ([2, 7, 8], []), ([2, 7, 8, 9], []), ([2, 7, 8, 9, 28, 29], []), ([8, 9, 29], [2, 7, 28]), ([2, 7, 8, 9, 28, 29, 30], []), ([2, 7, 8, 9, 10, 28, 29], []), ([2, 7, 8, 9, 28, 29], []), ([2, 7, 8, 9, 28, 29], []), ([2, 7, 8, 9, 28, 29], []), ([6], [])] = some (x_iheads, r_iheads) := by kernel_rfl
def us_iheads :=  (aI (aI (aI @u62_0 (aI @u62_1 @u62_2)) (aI @u62_3 (aI @u62_4 @u62_5))) (aI (aI @u62_6 (aI @u62_7 @u62_8)) (aI (aI @u62_9 @u62_10) (aI @u62_11 @u62_12))))
abbrev b93_1 : X := (.cond (.t 18) .skip (.exit 0))
def t93_1 := b93_1
theorem u93_1 : vcK P t93_1 k e w = vcK P b93_1 k e w := rfl
abbrev b93_2 : X := (.reg [2, 3, 4, 7, 8, 9] (.c (.q 31 [] (.mv (.t 8))) (.c (.q 32 [] (.mv (.t 7))) (.c (.e (some 33) [] (.bsl 9 1 [(.t 32)])) (.c (.e (some 34) [] (.app 24 9 1 16 [(S [])] 24 (.t 31) (.t 33))) (.c (.q 8 [] (.mv (.t 34))) .nil))))))
def t93_2 := b93_2
theorem u93_2 : vcK P t93_2 k e w = vcK P b93_2 k e w := rfl
abbrev b93_3 : X := (.reg [2, 3, 4, 7, 8, 9] (.c (.q 19 [] (.mv (.t 9))) (.c (.q 20 [] (.bin .add (.t 19) (.c (.int .i64 1)))) (.c (.q 9 [] (.mv (.t 20))) .nil))))
def t93_3 := b93_3
theorem u93_3 : vcK P t93_3 k e w = vcK P b93_3 k e w := rfl
abbrev b93_4 : X := (.seq (.blk 1 (.seq (.drw [2, 3, 4, 7, 8, 9] (.c (.q 21 [] (.mv (.t 7))) (.c (.q 22 [] (.lda 3 (.t 3))) (.c (.q 23 [] (.lda 2 (.t 4))) (.c (.q 24 [] (.mv (.t 2))) (.c (.q 25 [] (.mv (.t 9))) (.c (.q 26 [] (.mv (.t 9))) (.c (.q 27 [] (.bin .add (.t 26) (.c (.int .i64 1)))) (.c (.q 28 [] (.sub (.t 24) (some (.t 25)) (some (.t 27)))) (.c (.e (some 29) [] (.call false 107 [(.t 22), (.t 23), (.t 28)])) (.c (.e (some 30) [] (.call false 106 [(.t 21), (.t 29)])) (.c (.q 7 [] (.mv (.t 30))) .nil)))))))))))) t93_2)) t93_3)
def t93_4 := b93_4
theorem u93_4 : vcK P t93_4 k e w = vcK P b93_4 k e w := rfl
abbrev b93_5 : X := (.seq (.seq (.reg [2, 3, 4, 7, 8, 9, 18] (.c (.q 15 [] (.mv (.t 9))) (.c (.q 16 [] (.mv (.t 2))) (.c (.q 17 [] (.len (.t 16))) (.c (.q 18 [] (.bin .lss (.t 15) (.t 17))) .nil))))) t93_1) t93_4)
def t93_5 := b93_5
theorem u93_5 : vcK P t93_5 k e w = vcK P b93_5 k e w := rfl
abbrev b93_6 : X := (.blk 0 (.loop [7, 8, 9] [2, 3, 4] t93_5))
def t93_6 := b93_6
theorem u93_6 : vcK P t93_6 k e w = vcK P b93_6 k e w := rfl
abbrev b93_7 : X := (.seq (.reg [6] (.c (.q 35 [] (.mv (.t 8))) (.c (.q 6 [] (.mv (.t 35))) .nil))) .ret)
def t93_7 := b93_7
theorem u93_7 : vcK P t93_7 k e w = vcK P b93_7 k e w := rfl
abbrev b93_8 : X := (.seq (.seq (.reg [2, 3, 4, 7, 8, 9] (.c (.q 9 [] (.mv (.c (.int .i64 0)))) .nil)) t93_6) t93_7)
def t93_8 := b93_8
theorem u93_8 : vcK P t93_8 k e w = vcK P b93_8 k e w := rfl
abbrev b93_9 : X := (.seq (.reg [2, 3, 4, 7, 8] (.c (.q 13 [] (.mv (.t 7))) (.c (.e (some 14) [] (.bsl 9 1 [(.t 13)])) (.c (.q 8 [] (.mv (.t 14))) .nil)))) t93_8)
def t93_9 := b93_9
theorem u93_9 : vcK P t93_9 k e w = vcK P b93_9 k e w := rfl
abbrev b93_10 : X := (.seq (.reg [2, 3, 4, 7] (.c (.q 10 [] (.fa 1 (.t 3))) (.c (.q 11 [] (.ld (.t 10))) (.c (.e (some 12) [] (.call false 68 [(.t 11)])) (.c (.q 7 [] (.mv (.t 12))) .nil))))) t93_9)
def t93_10 := b93_10
theorem u93_10 : vcK P t93_10 k e w = vcK P b93_10 k e w := rfl
abbrev b93_0 : X := (.seq (.reg [2, 3, 4] (.c (.e (some 3) [] (.box 44 (.t 0))) (.c (.e (some 4) [] (.box 46 (.t 1))) (.c (.q 6 [] (.mv (.c (.slice none 0 0)))) .nil)))) t93_10)
def x_sl9Heads := b93_0
theorem u93_0 : vcK P x_sl9Heads k e w = vcK P b93_0 k e w := rfl
def r_sl9Heads : List XO := [(.mv (.t 6))]
theorem c_sl9Heads : convF Try.prog [38, 39, 41, 42, 49, 54, 55, 57, 58, 59, 73, 79, 81, 84, 87, 139] Try.f93 [([2, 3, 4], []), ([2, 3, 4, 7], []), ([2, 3, 4, 7, 8], []), ([2, 3, 4, 7, 8, 9], []), ([7, 8, 9], [2, 3, 4]), ([2, 3, 4, 7, 8, 9, 18], []), ([2, 3, 4, 7, 8, 9], []), ([2, 3, 4, 7, 8, 9], []), ([2, 3, 4, 7, 8, 9], []), ([6], [])] = some (x_sl9Heads, r_sl9Heads) := by kernel_rfl
def us_sl9Heads :=  (aI (aI (aI @u93_0 @u93_1) (aI @u93_2 (aI @u93_3 @u93_4))) (aI (aI @u93_5 (aI @u93_6 @u93_7)) (aI @u93_8 (aI @u93_9 @u93_10))))
end
/-- The head of a lead with a call. -/
def HD (st : Nat) (cs : List (List UInt8)) (b s : List UInt8) (c : UInt8) : List UInt8 := headC st cs b s [c]
/-- The head behind the first k leads. -/
def headP (st : Nat) (cs : List (List UInt8)) (b s t : List UInt8) (k : Nat) : List UInt8 := prodL (HD st cs b s) st (t.take k)
def headsP (st : Nat) (cs : List (List UInt8)) (b s t : List UInt8) (k : Nat) : List (List UInt8) := (List.range k).map (headP st cs b s t)
theorem headsP_len (st : Nat) (cs : List (List UInt8)) (b s t : List UInt8) (k : Nat) : (headsP st cs b s t k).length = k := by simp [headsP]
theorem headsP_get (st : Nat) (cs : List (List UInt8)) (b s t : List UInt8) (k i : Nat) (h : i < k) : (headsP st cs b s t k).getD i [] = headP st cs b s t i := by
  unfold headsP
  rw [List.getD_eq_getElem?_getD, List.getElem?_map, List.getElem?_range h]; rfl
theorem headsP_succ (st : Nat) (cs : List (List UInt8)) (b s t : List UInt8) (k : Nat) : headsP st cs b s t (k + 1) = headsP st cs b s t k ++ [headP st cs b s t k] := by simp [headsP, List.range_succ]
theorem headP_succ (st : Nat) (cs : List (List UInt8)) (b s t : List UInt8) (k : Nat) (h : k < t.length) : headP st cs b s t (k + 1) = timesL (headP st cs b s t k) (HD st cs b s (t.getD k 0)) := by
  unfold headP prodL
  rw [List.take_add_one, List.getElem?_eq_getElem h, List.getD_eq_getElem?_getD, List.getElem?_eq_getElem h, Option.toList_some, List.foldl_append]
  rfl
theorem HD_row {nm : List UInt8} {st : Nat} {cs : List (List UInt8)} {b s : List UInt8} (h : IsMC nm st cs b s) (c : UInt8) : IsRow (HD st cs b s c) ∧ (HD st cs b s c).length = st := headC_row h [c]
theorem headP_row {nm : List UInt8} {st : Nat} {cs : List (List UInt8)} {b s : List UInt8} (h : IsMC nm st cs b s) (t : List UInt8) (k : Nat) : IsRow (headP st cs b s t k) ∧ (headP st cs b s t k).length = st :=
  prodL_row (by have := h.1.2.1; omega) (HD_row h) _
theorem mapAt_ext {w w' : World} {m : Nat} {en : List (Value × Value)} (h : mapAt w (.map (some m)) = some en) (hx : Ext w w') : mapAt w' (.map (some m)) = some en := by
  simp only [mapAt] at h ⊢
  cases hb : w.heap[m]? with
  | none => rw [hb] at h; simp at h
  | some o =>
    have hlt := (Array.getElem?_eq_some_iff.1 hb).1
    rw [hx.block hlt, hb]; rw [hb] at h; exact h
theorem m_mkmapN {P : Program} {m : Option World} {ps : List Nat} {k : KT} {r : XT} {d : Option Nat} {l : EL} {w : World} (h : ∀ b w', b = w.heap.size → mapAt w' (.map (some b)) = some [] → Ext w w' → w'.heap.size = b + 1 → ∀ s, ops P m ps k r (setO ⟨l, s⟩ d (.map (some b))) w') : mkmapL P m ps k r d l w := by
  unfold mkmapL mkmapK
  intro s
  exact h _ _ rfl (by simp only [mapAt, heap_alloc_new]; rfl) (Ext.alloc w _) (by simp) s
theorem iheads_ok (nm : List UInt8) (st : Nat) (v : Value) (cs : List (List UInt8)) (b s t : List UInt8) (hm : IsMC nm st cs b s) (ht : t.length ≤ 60 ∧ ∀ c ∈ t, IsCall [c]) (w : World) (h : Sq fS 1 w v cs) : Fn 62 [mV nm st v, kV b s, S t] w (fun r w' => Own fS 1 9 w.heap.size w' r (headsP st cs b s t (t.length + 1))) := by
  have h8 := hm.1.2.1
  (refine callsV_of mix Try.func62 c_iheads ?_; simp only [↓vsd, vsn, gW, qd, qv, ev, pick, argE, zipE, ne_eq, eq_self, forall_const, implies_true, if_true, if_false, reduceIte, reduceCtorEq, Nat.reduceEqDiff, Nat.reduceAdd, Nat.reduceLT, ↓us_iheads, r_iheads])
  refine m_al ?_
  rintro b1 w1 hb1 hblk1 hx1 hs1
  have h1 : Blk w1 b1 (fM nm st v) 44 := hblk1
  simp only [↓vsd, vsn, gW, qd, qv, ev, pick, argE, zipE, ne_eq, eq_self, forall_const, implies_true, if_true, if_false, reduceIte, reduceCtorEq, Nat.reduceEqDiff, Nat.reduceAdd, Nat.reduceLT, ↓us_iheads, r_iheads, h1.facts, fMg]
  refine m_al ?_
  rintro b2 w2 hb2 hblk2 hx2 hs2
  have h2 : Blk w2 b2 (fQ b s) 46 := hblk2
  have h12 := h1.ext hx2
  have hx12 := hx1.trans hx2
  simp only [↓vsd, vsn, gW, qd, qv, ev, pick, argE, zipE, ne_eq, eq_self, forall_const, implies_true, if_true, if_false, reduceIte, reduceCtorEq, Nat.reduceEqDiff, Nat.reduceAdd, Nat.reduceLT, ↓us_iheads, r_iheads, h12.facts, h2.facts, fMg, fQg]
  generalize hk : KT.seq _ _ = kk
  have rest : ∀ bm w3, Ext w2 w3 → (∃ en, mapAt w3 (.map (some bm)) = some en ∧ lkE (.int .u8) (.int .u8 112) en = some (some (S (headC st cs b s [112]))) ∧ lkE (.int .u8) (.int .u8 98) en = some (some (S (headC st cs b s [98]))) ∧ lkE (.int .u8) (.int .u8 115) en = some (some (S (headC st cs b s [115])))) →
      ∀ r, apK Try.prog kk .nrm ⟨[(2, S t), (3, .pointer (some ⟨b1, 0, none⟩)), (7, .map (some bm))], r⟩ w3 := by
    rintro bm w3 hx3 ⟨en, hmp, e1, e2, e3⟩
    rw [← hk]
    have h13 := h12.ext hx3
    have hx13 := hx12.trans hx3
    simp only [↓vsd, vsn, gW, qd, qv, ev, pick, argE, zipE, ne_eq, eq_self, forall_const, implies_true, if_true, if_false, reduceIte, reduceCtorEq, Nat.reduceEqDiff, Nat.reduceAdd, Nat.reduceLT, ↓us_iheads, r_iheads, h13.facts, fMg]
    refine m_call (irounds_ok st (by omega) _) ?_
    rintro _ w4 hx4 rfl
    have hx4 : Ext w3 w4 := by first | exact hx4 | exact ud hx4
    simp only [↓vsd, vsn, gW, qd, qv, ev, pick, argE, zipE, ne_eq, eq_self, forall_const, implies_true, if_true, if_false, reduceIte, reduceCtorEq, Nat.reduceEqDiff, Nat.reduceAdd, Nat.reduceLT, ↓us_iheads, r_iheads]
    refine m_bsl (one_el rfl) ?_
    rintro b5 w5 hb5 hblk5 hx5 hs5
    simp only [↓vsd, vsn, gW, qd, qv, ev, pick, argE, zipE, ne_eq, eq_self, forall_const, implies_true, if_true, if_false, reduceIte, reduceCtorEq, Nat.reduceEqDiff, Nat.reduceAdd, Nat.reduceLT, ↓us_iheads, r_iheads]
    have hx35 := hx4.trans hx5
    have hlk : ∀ c, IsCall [c] → ∀ w', Ext w3 w' → (∀ co z, mlkV w' co (.int .u8) z (.map (some bm)) (.int .u8 (c.toNat : Nat)) = mlkR co z (some (some (S (HD st cs b s c))))) ∧ mlkD w' (.int .u8) (.map (some bm)) (.int .u8 (c.toNat : Nat)) = True := fun c hc w' hw => by
      have hm' := mapAt_ext hmp hw
      have he : lkE (.int .u8) (.int .u8 (c.toNat : Nat)) en = some (some (S (HD st cs b s c))) := by
        rcases hc with h | h | h <;> simp only [List.cons.injEq, and_true] at h <;> subst h <;> assumption
      unfold mlkV mlkD
      rw [hm', Option.bind_some, he]
      exact ⟨fun _ _ => rfl, eq_true rfl⟩
    refine m_upto t.length (fun i vs w' => ∃ x, vs = [S (headP st cs b s t i), x, .int .i64 i] ∧ Own fS 1 9 w3.heap.size w' x (headsP st cs b s t (i + 1)) ∧ Ext w3 w') ⟨_, rfl, (Own.one fS_len hblk5 rfl (by have := hx4.size; omega)).to rfl, hx35⟩ ?_
    rintro i vs w6 hi ⟨x, rfl, ho6, hx6⟩
    by_cases hlt : i < t.length
    · have hltI : (i : Int) < t.length := by omega
      have hltJ : ¬ (t.length : Int) ≤ i := by omega
      have hc := hlk (t.getD i 0) (ht.2 _ (getD_mem 0 hlt)) w6 hx6
      have hH := HD_row hm (t.getD i 0)
      have hP := headP_row hm t i
      simp only [↓vsd, vsn, gW, qd, qv, ev, pick, argE, zipE, ne_eq, eq_self, forall_const, implies_true, if_true, if_false, reduceIte, reduceCtorEq, Nat.reduceEqDiff, Nat.reduceAdd, Nat.reduceLT, ↓us_iheads, r_iheads, hltI, hltJ, hc, mlkR]
      refine ⟨by omega, m_call (itimes_ok _ _ hH.1 (by rw [hH.2, hP.2]) _) ?_⟩
      rintro _ w7 hx7 rfl
      have hx7 : Ext w6 w7 := by first | exact hx7 | exact ud hx7
      simp only [↓vsd, vsn, gW, qd, qv, ev, pick, argE, zipE, ne_eq, eq_self, forall_const, implies_true, if_true, if_false, reduceIte, reduceCtorEq, Nat.reduceEqDiff, Nat.reduceAdd, Nat.reduceLT, ↓us_iheads, r_iheads]
      refine m_bsl (one_el rfl) ?_
      rintro b8 w8 hb8 hblk8 hx8 hs8
      have hx8 : Ext w7 w8 := by first | exact hx8 | exact ud hx8
      simp only [↓vsd, vsn, gW, qd, qv, ev, pick, argE, zipE, ne_eq, eq_self, forall_const, implies_true, if_true, if_false, reduceIte, reduceCtorEq, Nat.reduceEqDiff, Nat.reduceAdd, Nat.reduceLT, ↓us_iheads, r_iheads]
      have hx78 := hx7.trans hx8
      refine m_app (ho6.ext hx78) (Sq.one fS_len hblk8 rfl) fS_one (by decide) (by rw [headsP_len]; simp; omega) (by decide) ((hx6.trans hx78).size) ?_
      rintro x9 w9 ho9 hg9
      simp only [↓vsd, vsn, gW, qd, qv, ev, pick, argE, zipE, ne_eq, eq_self, forall_const, implies_true, if_true, if_false, reduceIte, reduceCtorEq, Nat.reduceEqDiff, Nat.reduceAdd, Nat.reduceLT, ↓us_iheads, r_iheads]
      have hx9 := (ho6.ext hx78).grown (hx6.trans hx78) (Nat.le_refl _) hg9
      exact ⟨inR_i64 (by omega), UpTo.next hlt ⟨x9, by rw [headP_succ st cs b s t i hlt]; rfl, ho9.to (by rw [headsP_succ st cs b s t (i + 1), headP_succ st cs b s t i hlt]), hx9⟩⟩
    · obtain rfl : i = t.length := by omega
      have hltI : ¬ (t.length : Int) < t.length := by omega
      simp only [↓vsd, vsn, gW, qd, qv, ev, pick, argE, zipE, ne_eq, eq_self, forall_const, implies_true, if_true, if_false, reduceIte, reduceCtorEq, Nat.reduceEqDiff, Nat.reduceAdd, Nat.reduceLT, ↓us_iheads, r_iheads, hltI]
      exact ⟨hx13.trans hx6, ho6.mono hx13.size⟩
  have hx : Ext w2.drew w2.drew := Ext.refl _
  repeat' first
    | refine ⟨?_, ?_⟩
    | (refine m_call (icallHead_ok nm st v cs b s _ hm _ (h.ext (hx12.trans (ud hx)))) ?_; rintro _ _ hx' rfl; replace hx := hx.trans hx'; (try replace hmp := mapAt_ext hmp hx'); clear hx'; simp only [↓vsd, vsn, gW, qd, qv, ev, pick, argE, zipE, ne_eq, eq_self, forall_const, implies_true, if_true, if_false, reduceIte, reduceCtorEq, Nat.reduceEqDiff, Nat.reduceAdd, Nat.reduceLT, ↓us_iheads, r_iheads])
    | (refine m_mkmapN ?_; rintro bm _ hbm hmp hx' hsz; have hbw : w2.drew.heap.size ≤ bm := (by have := hx.size; omega); replace hx := hx.trans hx'; clear hx' hbm hsz; simp only [↓vsd, vsn, gW, qd, qv, ev, pick, argE, zipE, ne_eq, eq_self, forall_const, implies_true, if_true, if_false, reduceIte, reduceCtorEq, Nat.reduceEqDiff, Nat.reduceAdd, Nat.reduceLT, ↓us_iheads, r_iheads])
    | (refine m_mups hmp rfl (fun w0 e => by cases e; exact hbw) ?_; rintro _ hmp' hu; replace hx : Ext w2.drew _ := hu.below hx hbw; replace hmp := hmp'; clear hmp' hu; simp only [↓vsd, vsn, gW, qd, qv, ev, pick, argE, zipE, ne_eq, eq_self, forall_const, implies_true, if_true, if_false, reduceIte, reduceCtorEq, Nat.reduceEqDiff, Nat.reduceAdd, Nat.reduceLT, ↓us_iheads, r_iheads])
  all_goals exact rest _ _ (ud hx) ⟨_, hmp, rfl, rfl, rfl⟩
theorem sl9Heads_ok (nm : List UInt8) (st : Nat) (v : Value) (cs : List (List UInt8)) (b s t : List UInt8) (hm : IsMC nm st cs b s) (ht : t.length ≤ 60) (w : World) (h : Sq fS 1 w v cs) : Fn 93 [mV nm st v, kV b s, S t] w (fun r w' => Own fS 1 9 w.heap.size w' r (headsP st cs b s t (t.length + 1))) := by
  have h8 := hm.1.2.1
  (refine callsV_of mix Try.func93 c_sl9Heads ?_; simp only [↓vsd, vsn, gW, qd, qv, ev, pick, argE, zipE, ne_eq, eq_self, forall_const, implies_true, if_true, if_false, reduceIte, reduceCtorEq, Nat.reduceEqDiff, Nat.reduceAdd, Nat.reduceLT, ↓us_sl9Heads, r_sl9Heads])
  refine m_al ?_
  rintro b1 w1 hb1 hblk1 hx1 hs1
  have h1 : Blk w1 b1 (fM nm st v) 44 := hblk1
  simp only [↓vsd, vsn, gW, qd, qv, ev, pick, argE, zipE, ne_eq, eq_self, forall_const, implies_true, if_true, if_false, reduceIte, reduceCtorEq, Nat.reduceEqDiff, Nat.reduceAdd, Nat.reduceLT, ↓us_sl9Heads, r_sl9Heads, h1.facts, fMg]
  refine m_al ?_
  rintro b2 w2 hb2 hblk2 hx2 hs2
  have h2 : Blk w2 b2 (fQ b s) 46 := hblk2
  have h12 := h1.ext hx2
  have hx12 := hx1.trans hx2
  simp only [↓vsd, vsn, gW, qd, qv, ev, pick, argE, zipE, ne_eq, eq_self, forall_const, implies_true, if_true, if_false, reduceIte, reduceCtorEq, Nat.reduceEqDiff, Nat.reduceAdd, Nat.reduceLT, ↓us_sl9Heads, r_sl9Heads, h12.facts, h2.facts, fMg, fQg]
  refine m_call (sl1Rounds_ok st (by omega) _) ?_
  rintro _ w4 hx4 rfl
  have hx4 : Ext w2 w4 := by first | exact hx4 | exact ud hx4
  simp only [↓vsd, vsn, gW, qd, qv, ev, pick, argE, zipE, ne_eq, eq_self, forall_const, implies_true, if_true, if_false, reduceIte, reduceCtorEq, Nat.reduceEqDiff, Nat.reduceAdd, Nat.reduceLT, ↓us_sl9Heads, r_sl9Heads]
  refine m_bsl (one_el rfl) ?_
  rintro b5 w5 hb5 hblk5 hx5 hs5
  simp only [↓vsd, vsn, gW, qd, qv, ev, pick, argE, zipE, ne_eq, eq_self, forall_const, implies_true, if_true, if_false, reduceIte, reduceCtorEq, Nat.reduceEqDiff, Nat.reduceAdd, Nat.reduceLT, ↓us_sl9Heads, r_sl9Heads]
  have hx25 := hx4.trans hx5
  refine m_upto t.length (fun i vs w' => ∃ x, vs = [S (headP st cs b s t i), x, .int .i64 i] ∧ Own fS 1 9 w2.heap.size w' x (headsP st cs b s t (i + 1)) ∧ Ext w2 w') ⟨_, rfl, (Own.one fS_len hblk5 rfl (by have := hx4.size; omega)).to rfl, hx25⟩ ?_
  rintro i vs w6 hi ⟨x, rfl, ho6, hx6⟩
  have h16 := h12.ext hx6
  have h26 := h2.ext hx6
  have hx16 := hx12.trans hx6
  by_cases hlt : i < t.length
  · have hltI : (i : Int) < t.length := by omega
    have hltJ : ¬ (t.length : Int) ≤ i := by omega
    have hH := HD_row hm (t.getD i 0)
    have hP := headP_row hm t i
    have hs1 := sub_one t i hlt
    simp only [↓vsd, vsn, gW, qd, qv, ev, pick, argE, zipE, ne_eq, eq_self, forall_const, implies_true, if_true, if_false, reduceIte, reduceCtorEq, Nat.reduceEqDiff, Nat.reduceAdd, Nat.reduceLT, ↓us_sl9Heads, r_sl9Heads, h16.facts, h26.facts, fMg, fQg, hltI, hltJ]
    rw [hs1]
    refine ⟨inR_i64 (by omega), by omega, m_call (sl8Head_ok nm st v cs b s [t.getD i 0] hm _ (h.ext (by first | exact hx16 | exact dr hx16))) ?_⟩
    rintro _ w7 hx7 rfl
    have hx7 : Ext w6 w7 := by first | exact hx7 | exact ud hx7
    simp only [↓vsd, vsn, gW, qd, qv, ev, pick, argE, zipE, ne_eq, eq_self, forall_const, implies_true, if_true, if_false, reduceIte, reduceCtorEq, Nat.reduceEqDiff, Nat.reduceAdd, Nat.reduceLT, ↓us_sl9Heads, r_sl9Heads]
    refine m_call (sl1Times_ok _ _ hH.1 (by show (headP st cs b s t i).length = (HD st cs b s (t.getD i 0)).length; rw [hH.2, hP.2]) _) ?_
    rintro _ w7' hx7' rfl
    have hx7' : Ext w7 w7' := by first | exact hx7' | exact ud hx7'
    simp only [↓vsd, vsn, gW, qd, qv, ev, pick, argE, zipE, ne_eq, eq_self, forall_const, implies_true, if_true, if_false, reduceIte, reduceCtorEq, Nat.reduceEqDiff, Nat.reduceAdd, Nat.reduceLT, ↓us_sl9Heads, r_sl9Heads]
    refine m_bsl (one_el rfl) ?_
    rintro b8 w8 hb8 hblk8 hx8 hs8
    have hx8 : Ext w7' w8 := by first | exact hx8 | exact ud hx8
    simp only [↓vsd, vsn, gW, qd, qv, ev, pick, argE, zipE, ne_eq, eq_self, forall_const, implies_true, if_true, if_false, reduceIte, reduceCtorEq, Nat.reduceEqDiff, Nat.reduceAdd, Nat.reduceLT, ↓us_sl9Heads, r_sl9Heads]
    have hx78 := (hx7.trans hx7').trans hx8
    refine m_app (ho6.ext hx78) (Sq.one fS_len hblk8 rfl) fS_one (by decide) (by rw [headsP_len]; simp; omega) (by decide) ((hx6.trans hx78).size) ?_
    rintro x9 w9 ho9 hg9
    simp only [↓vsd, vsn, gW, qd, qv, ev, pick, argE, zipE, ne_eq, eq_self, forall_const, implies_true, if_true, if_false, reduceIte, reduceCtorEq, Nat.reduceEqDiff, Nat.reduceAdd, Nat.reduceLT, ↓us_sl9Heads, r_sl9Heads]
    have hx9 := (ho6.ext hx78).grown (hx6.trans hx78) (Nat.le_refl _) hg9
    exact ⟨inR_i64 (by omega), UpTo.next hlt ⟨x9, by rw [headP_succ st cs b s t i hlt]; rfl, ho9.to (by rw [headsP_succ st cs b s t (i + 1), headP_succ st cs b s t i hlt]), hx9⟩⟩
  · obtain rfl : i = t.length := by omega
    have hltI : ¬ (t.length : Int) < t.length := by omega
    simp only [↓vsd, vsn, gW, qd, qv, ev, pick, argE, zipE, ne_eq, eq_self, forall_const, implies_true, if_true, if_false, reduceIte, reduceCtorEq, Nat.reduceEqDiff, Nat.reduceAdd, Nat.reduceLT, ↓us_sl9Heads, r_sl9Heads, hltI]
    exact ⟨hx12.trans hx6, ho6.mono hx12.size⟩
end Go.Proofs.Ytfklonhjgkahdaa
