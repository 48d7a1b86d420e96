/-
  The drawing of calls and touches.
  Conditions: none.
-/
import Derived.Test.YthopbkemkfjebaaGreatKA17
import Derived.Test.YthopbkemkfjebaaGreatKD15
set_option linter.unusedSimpArgs false
set_option linter.unusedVariables false
set_option linter.defProp false
namespace Go.Proofs.YthopbkemkfjebaaGreat
open Go Go.RowKit
section
variable (P : Program) (k : KT) (e : Env) (w : World)
abbrev b59_1 : X := (.reg [0, 4, 5, 6] (.c (.q 33 [] (.fa 0 (.t 6))) (.c (.e none [] (.st 1 (.t 33) (.s [49, 52]))) .nil)))
def t59_1 := b59_1
theorem u59_1 : vcK P t59_1 k e w = vcK P b59_1 k e w := rfl
abbrev b59_2 : X := (.cond (.t 31) (.seq (.reg [0, 4, 5, 6] (.c (.q 32 [] (.fa 1 (.t 6))) (.c (.e none [] (.st 1 (.t 32) (.s [49, 50]))) .nil))) t59_1) .skip)
def t59_2 := b59_2
theorem u59_2 : vcK P t59_2 k e w = vcK P b59_2 k e w := rfl
abbrev b59_3 : X := (.seq (.reg [0, 4, 5, 6, 31] (.c (.q 30 [] (.mv (.t 5))) (.c (.q 31 [] (.bin .eql (.t 30) (.c (.int .i64 4)))) .nil))) t59_2)
def t59_3 := b59_3
theorem u59_3 : vcK P t59_3 k e w = vcK P b59_3 k e w := rfl
abbrev b59_4 : X := (.seq (.reg [0, 4, 5, 6] (.c (.q 29 [] (.fa 1 (.t 6))) (.c (.e none [] (.st 1 (.t 29) (.s [49, 50, 51, 52]))) .nil))) t59_3)
def t59_4 := b59_4
theorem u59_4 : vcK P t59_4 k e w = vcK P b59_4 k e w := rfl
abbrev b59_5 : X := (.cond (.t 27) (.seq (.reg [0, 4, 5, 6] (.c (.q 28 [] (.fa 0 (.t 6))) (.c (.e none [] (.st 1 (.t 28) (.s [49, 52]))) .nil))) t59_4) .skip)
def t59_5 := b59_5
theorem u59_5 : vcK P t59_5 k e w = vcK P b59_5 k e w := rfl
abbrev b59_6 : X := (.reg [4, 6] (.c (.q 42 [] (.fa 1 (.t 6))) (.c (.e none [] (.st 1 (.t 42) (.s [49, 50, 51]))) .nil)))
def t59_6 := b59_6
theorem u59_6 : vcK P t59_6 k e w = vcK P b59_6 k e w := rfl
abbrev b59_7 : X := (.cond (.t 40) (.seq (.reg [4, 6] (.c (.q 41 [] (.fa 0 (.t 6))) (.c (.e none [] (.st 1 (.t 41) (.s [49, 52, 53]))) .nil))) t59_6) .skip)
def t59_7 := b59_7
theorem u59_7 : vcK P t59_7 k e w = vcK P b59_7 k e w := rfl
abbrev b59_8 : X := (.seq (.reg [4] (.c (.q 43 [] (.lda 2 (.t 6))) (.c (.e none [] (.st 2 (.t 4) (.t 43))) .nil))) .ret)
def t59_8 := b59_8
theorem u59_8 : vcK P t59_8 k e w = vcK P b59_8 k e w := rfl
abbrev b59_9 : X := (.seq (.seq (.reg [4, 6, 40] (.c (.q 34 [] (.mv (.t 5))) (.c (.q 35 [] (.bin .eql (.t 34) (.c (.int .i64 5)))) (.c (.q 36 [] (.mv (.t 35))) (.c (.q 37 [(36, true)] (.mv (.t 0))) (.c (.e (some 38) [(36, true)] (.call true 58 [(.t 37), (.c (.int .i64 4))])) (.c (.q 39 [(36, true)] (.not (.t 38))) (.c (.q 40 [] (.pick (.t 36) (.t 39) (.c (.bool false)))) .nil)))))))) t59_7) t59_8)
def t59_9 := b59_9
theorem u59_9 : vcK P t59_9 k e w = vcK P b59_9 k e w := rfl
abbrev b59_10 : X := (.seq (.seq (.reg [0, 4, 5, 6, 27] (.c (.q 16 [] (.mv (.t 5))) (.c (.q 17 [] (.bin .geq (.t 16) (.c (.int .i64 4)))) (.c (.q 18 [] (.mv (.t 17))) (.c (.q 19 [(18, true)] (.mv (.t 5))) (.c (.q 20 [(18, true)] (.bin .rem (.t 19) (.c (.int .i64 2)))) (.c (.q 21 [(18, true)] (.bin .eql (.t 20) (.c (.int .i64 0)))) (.c (.q 22 [] (.pick (.t 18) (.t 21) (.c (.bool false)))) (.c (.q 23 [] (.mv (.t 22))) (.c (.q 24 [(23, true)] (.mv (.t 0))) (.c (.e (some 25) [(23, true)] (.call true 58 [(.t 24), (.c (.int .i64 4))])) (.c (.q 26 [(23, true)] (.not (.t 25))) (.c (.q 27 [] (.pick (.t 23) (.t 26) (.c (.bool false)))) .nil))))))))))))) t59_5) t59_9)
def t59_10 := b59_10
theorem u59_10 : vcK P t59_10 k e w = vcK P b59_10 k e w := rfl
abbrev b59_11 : X := (.seq (.reg [0, 4, 5, 6] (.c (.q 9 [] (.mv (.t 0))) (.c (.q 10 [] (.mv (.t 5))) (.c (.e (some 11) [] (.call true 112 [(.t 9), (.t 10)])) (.c (.q 12 [] (.mv (.t 0))) (.c (.q 13 [] (.mv (.t 5))) (.c (.e (some 14) [] (.call true 112 [(.t 12), (.t 13)])) (.c (.q 15 [] (.bld [(S []), (S [])] [(0, 0, (.t 11)), (1, 0, (.t 14))])) (.c (.e (some 6) [] (.al 27 [(S []), (S [])])) (.c (.e none [] (.st 2 (.t 6) (.t 15))) .nil)))))))))) t59_10)
def t59_11 := b59_11
theorem u59_11 : vcK P t59_11 k e w = vcK P b59_11 k e w := rfl
abbrev b59_12 : X := (.seq (.reg [0, 4, 5] (.c (.q 7 [] (.fa 1 (.t 3))) (.c (.q 8 [] (.ld (.t 7))) (.c (.q 5 [] (.mv (.t 8))) .nil)))) t59_11)
def t59_12 := b59_12
theorem u59_12 : vcK P t59_12 k e w = vcK P b59_12 k e w := rfl
abbrev b59_0 : X := (.seq (.reg [0, 3, 4] (.c (.e (some 3) [] (.box 25 (.t 1))) (.c (.e (some 4) [] (.al 27 [(S []), (S [])])) .nil))) t59_12)
def x_sl1Cur_calls := b59_0
theorem u59_0 : vcK P x_sl1Cur_calls k e w = vcK P b59_0 k e w := rfl
def r_sl1Cur_calls : List XO := [(.lda 2 (.t 4))]
theorem c_sl1Cur_calls : convF Tryz.prog [56, 58, 59, 60, 61, 62, 72, 73, 77, 97, 98, 109, 110, 111, 112, 115, 128, 136] Tryz.f59 [([0, 3, 4], []), ([0, 4, 5], []), ([0, 4, 5, 6], []), ([0, 4, 5, 6, 27], []), ([0, 4, 5, 6], []), ([0, 4, 5, 6], []), ([0, 4, 5, 6, 31], []), ([0, 4, 5, 6], []), ([0, 4, 5, 6], []), ([4, 6, 40], []), ([4, 6], []), ([4, 6], []), ([4], [])] = some (x_sl1Cur_calls, r_sl1Cur_calls) := by kernel_rfl
def us_sl1Cur_calls :=  (aI (aI (aI @u59_0 (aI @u59_1 @u59_2)) (aI @u59_3 (aI @u59_4 @u59_5))) (aI (aI @u59_6 (aI @u59_7 @u59_8)) (aI (aI @u59_9 @u59_10) (aI @u59_11 @u59_12))))
abbrev b72_1 : X := (.cond (.t 8) (.seq (.reg [4] (.c (.q 9 [] (.bld [(S []), (S [])] [(0, 0, (.s [49, 52])), (1, 0, (.s [49, 50, 51, 52]))])) (.c (.e none [] (.st 2 (.t 4) (.t 9))) .nil))) .ret) .skip)
def t72_1 := b72_1
theorem u72_1 : vcK P t72_1 k e w = vcK P b72_1 k e w := rfl
abbrev b72_2 : X := (.cond (.t 14) (.reg [4, 5] (.c (.q 15 [] (.mv (.t 0))) (.c (.e (some 16) [] (.bsl 9 1 [(.s []), (.s [120]), (.s [49]), (.s [49, 51]), (.s [57, 57])])) (.c (.e (some 17) [] (.call true 110 [(.t 15), (.t 16)])) (.c (.q 18 [] (.fa 0 (.t 5))) (.c (.e none [] (.st 1 (.t 18) (.t 17))) .nil)))))) .skip)
def t72_2 := b72_2
theorem u72_2 : vcK P t72_2 k e w = vcK P b72_2 k e w := rfl
abbrev b72_3 : X := (.seq (.reg [4] (.c (.q 19 [] (.lda 2 (.t 5))) (.c (.e none [] (.st 2 (.t 4) (.t 19))) .nil))) .ret)
def t72_3 := b72_3
theorem u72_3 : vcK P t72_3 k e w = vcK P b72_3 k e w := rfl
abbrev b72_4 : X := (.seq (.seq (.reg [0, 4, 5, 14] (.c (.q 13 [] (.mv (.t 0))) (.c (.e (some 14) [] (.call true 58 [(.t 13), (.c (.int .i64 16))])) .nil))) t72_2) t72_3)
def t72_4 := b72_4
theorem u72_4 : vcK P t72_4 k e w = vcK P b72_4 k e w := rfl
abbrev b72_5 : X := (.seq (.reg [0, 4, 5] (.c (.q 10 [] (.mv (.t 0))) (.c (.q 11 [] (.lda 3 (.t 3))) (.c (.e (some 12) [] (.call true 59 [(.t 10), (.t 11)])) (.c (.e (some 5) [] (.al 27 [(S []), (S [])])) (.c (.e none [] (.st 2 (.t 5) (.t 12))) .nil)))))) t72_4)
def t72_5 := b72_5
theorem u72_5 : vcK P t72_5 k e w = vcK P b72_5 k e w := rfl
abbrev b72_6 : X := (.seq (.seq (.reg [0, 3, 4, 8] (.c (.q 6 [] (.lda 3 (.t 3))) (.c (.e (some 7) [] (.call false 57 [(.t 6)])) (.c (.q 8 [] (.not (.t 7))) .nil)))) t72_1) t72_5)
def t72_6 := b72_6
theorem u72_6 : vcK P t72_6 k e w = vcK P b72_6 k e w := rfl
abbrev b72_0 : X := (.seq (.reg [0, 3, 4] (.c (.e (some 3) [] (.box 25 (.t 1))) (.c (.e (some 4) [] (.al 27 [(S []), (S [])])) .nil))) t72_6)
def x_sl1Cur_anyCalls := b72_0
theorem u72_0 : vcK P x_sl1Cur_anyCalls k e w = vcK P b72_0 k e w := rfl
def r_sl1Cur_anyCalls : List XO := [(.lda 2 (.t 4))]
theorem c_sl1Cur_anyCalls : convF Tryz.prog [56, 58, 59, 60, 61, 62, 72, 73, 77, 97, 98, 109, 110, 111, 112, 115, 128, 136] Tryz.f72 [([0, 3, 4], []), ([0, 3, 4, 8], []), ([4], []), ([0, 4, 5], []), ([0, 4, 5, 14], []), ([4, 5], []), ([4], [])] = some (x_sl1Cur_anyCalls, r_sl1Cur_anyCalls) := by kernel_rfl
def us_sl1Cur_anyCalls :=  (aI (aI @u72_0 (aI @u72_1 @u72_2)) (aI (aI @u72_3 @u72_4) (aI @u72_5 @u72_6)))
abbrev b60_1 : X := (.cond (.t 12) .skip (.exit 0))
def t60_1 := b60_1
theorem u60_1 : vcK P t60_1 k e w = vcK P b60_1 k e w := rfl
abbrev b60_2 : X := (.reg [0, 5, 6] (.c (.q 13 [] (.mv (.t 6))) (.c (.q 14 [] (.bin .sub (.t 13) (.c (.int .i64 1)))) (.c (.q 6 [] (.mv (.t 14))) .nil))))
def t60_2 := b60_2
theorem u60_2 : vcK P t60_2 k e w = vcK P b60_2 k e w := rfl
abbrev b60_3 : X := (.seq (.blk 1 (.reg [0, 5, 6] (.c (.q 15 [] (.mv (.t 5))) (.c (.q 16 [] (.mv (.t 0))) (.c (.e (some 17) [] (.bsl 9 1 [(.s [112]), (.s [112]), (.s [98]), (.s [115]), (.s [98])])) (.c (.e (some 18) [] (.call true 110 [(.t 16), (.t 17)])) (.c (.q 19 [] (.bin .add (.t 15) (.t 18))) (.c (.q 5 [] (.mv (.t 19))) .nil)))))))) t60_2)
def t60_3 := b60_3
theorem u60_3 : vcK P t60_3 k e w = vcK P b60_3 k e w := rfl
abbrev b60_4 : X := (.seq (.seq (.reg [0, 5, 6, 12] (.c (.q 11 [] (.mv (.t 6))) (.c (.q 12 [] (.bin .gtr (.t 11) (.c (.int .i64 0)))) .nil))) t60_1) t60_3)
def t60_4 := b60_4
theorem u60_4 : vcK P t60_4 k e w = vcK P b60_4 k e w := rfl
abbrev b60_5 : X := (.blk 0 (.loop [5, 6] [0] t60_4))
def t60_5 := b60_5
theorem u60_5 : vcK P t60_5 k e w = vcK P b60_5 k e w := rfl
abbrev b60_6 : X := (.cond (.t 21) (.reg [5] (.c (.q 22 [] (.mv (.t 5))) (.c (.q 23 [] (.mv (.t 5))) (.c (.q 24 [] (.bin .add (.t 22) (.t 23))) (.c (.q 5 [] (.mv (.t 24))) .nil))))) .skip)
def t60_6 := b60_6
theorem u60_6 : vcK P t60_6 k e w = vcK P b60_6 k e w := rfl
abbrev b60_7 : X := (.seq (.reg [4] (.c (.q 25 [] (.mv (.t 5))) (.c (.q 4 [] (.mv (.t 25))) .nil))) .ret)
def t60_7 := b60_7
theorem u60_7 : vcK P t60_7 k e w = vcK P b60_7 k e w := rfl
abbrev b60_8 : X := (.seq (.seq (.reg [5, 21] (.c (.q 20 [] (.mv (.t 0))) (.c (.e (some 21) [] (.call true 58 [(.t 20), (.c (.int .i64 3))])) .nil))) t60_6) t60_7)
def t60_8 := b60_8
theorem u60_8 : vcK P t60_8 k e w = vcK P b60_8 k e w := rfl
abbrev b60_9 : X := (.seq (.seq (.reg [0, 5, 6] (.c (.q 7 [] (.mv (.t 0))) (.c (.q 8 [] (.mv (.t 1))) (.c (.e (some 9) [] (.call true 61 [(.t 7), (.t 8)])) (.c (.q 10 [] (.bin .add (.c (.int .i64 1)) (.t 9))) (.c (.q 6 [] (.mv (.t 10))) .nil)))))) t60_5) t60_8)
def t60_9 := b60_9
theorem u60_9 : vcK P t60_9 k e w = vcK P b60_9 k e w := rfl
abbrev b60_10 : X := (.seq (.reg [0, 1, 5] (.c (.q 5 [] (.mv (.s []))) .nil)) t60_9)
def t60_10 := b60_10
theorem u60_10 : vcK P t60_10 k e w = vcK P b60_10 k e w := rfl
abbrev b60_0 : X := (.seq (.reg [0, 1] (.c (.q 4 [] (.mv (.s []))) .nil)) t60_10)
def x_sl1Cur_touch := b60_0
theorem u60_0 : vcK P x_sl1Cur_touch k e w = vcK P b60_0 k e w := rfl
def r_sl1Cur_touch : List XO := [(.mv (.t 4))]
theorem c_sl1Cur_touch : convF Tryz.prog [56, 58, 59, 60, 61, 62, 72, 73, 77, 97, 98, 109, 110, 111, 112, 115, 128, 136] Tryz.f60 [([0, 1], []), ([0, 1, 5], []), ([0, 5, 6], []), ([5, 6], [0]), ([0, 5, 6, 12], []), ([0, 5, 6], []), ([0, 5, 6], []), ([5, 21], []), ([5], []), ([4], [])] = some (x_sl1Cur_touch, r_sl1Cur_touch) := by kernel_rfl
def us_sl1Cur_touch :=  (aI (aI (aI @u60_0 @u60_1) (aI @u60_2 (aI @u60_3 @u60_4))) (aI (aI @u60_5 (aI @u60_6 @u60_7)) (aI @u60_8 (aI @u60_9 @u60_10))))
abbrev b73_1 : X := (.cond (.t 18) .skip (.exit 1))
def t73_1 := b73_1
theorem u73_1 : vcK P t73_1 k e w = vcK P b73_1 k e w := rfl
abbrev b73_2 : X := (.reg [0, 3, 4] (.c (.q 19 [] (.mv (.t 4))) (.c (.q 20 [] (.bin .sub (.t 19) (.c (.int .i64 1)))) (.c (.q 4 [] (.mv (.t 20))) .nil))))
def t73_2 := b73_2
theorem u73_2 : vcK P t73_2 k e w = vcK P b73_2 k e w := rfl
abbrev b73_3 : X := (.seq (.blk 2 (.reg [0, 3, 4] (.c (.q 21 [] (.mv (.t 3))) (.c (.q 22 [] (.mv (.t 0))) (.c (.e (some 23) [] (.bsl 9 1 [(.s [112]), (.s [98]), (.s [115])])) (.c (.e (some 24) [] (.call true 110 [(.t 22), (.t 23)])) (.c (.q 25 [] (.bin .add (.t 21) (.t 24))) (.c (.q 3 [] (.mv (.t 25))) .nil)))))))) t73_2)
def t73_3 := b73_3
theorem u73_3 : vcK P t73_3 k e w = vcK P b73_3 k e w := rfl
abbrev b73_4 : X := (.seq (.seq (.reg [0, 3, 4, 18] (.c (.q 17 [] (.mv (.t 4))) (.c (.q 18 [] (.bin .gtr (.t 17) (.c (.int .i64 0)))) .nil))) t73_1) t73_3)
def t73_4 := b73_4
theorem u73_4 : vcK P t73_4 k e w = vcK P b73_4 k e w := rfl
abbrev b73_5 : X := (.blk 1 (.loop [3, 4] [0] t73_4))
def t73_5 := b73_5
theorem u73_5 : vcK P t73_5 k e w = vcK P b73_5 k e w := rfl
abbrev b73_6 : X := (.seq (.reg [2] (.c (.q 26 [] (.mv (.t 3))) (.c (.q 2 [] (.mv (.t 26))) .nil))) .ret)
def t73_6 := b73_6
theorem u73_6 : vcK P t73_6 k e w = vcK P b73_6 k e w := rfl
abbrev b73_7 : X := (.seq (.seq (.reg [0, 3, 4] (.c (.q 14 [] (.mv (.t 0))) (.c (.e (some 15) [] (.bsl 3 1 [(.c (.int .i64 59)), (.c (.int .i64 60)), (.c (.int .i64 61))])) (.c (.e (some 16) [] (.call true 111 [(.t 14), (.t 15)])) (.c (.q 4 [] (.mv (.t 16))) .nil))))) t73_5) t73_6)
def t73_7 := b73_7
theorem u73_7 : vcK P t73_7 k e w = vcK P b73_7 k e w := rfl
abbrev b73_8 : X := (.cond (.t 12) (.seq (.reg [0, 3] (.c (.q 3 [] (.mv (.s []))) .nil)) t73_7) .skip)
def t73_8 := b73_8
theorem u73_8 : vcK P t73_8 k e w = vcK P b73_8 k e w := rfl
abbrev b73_9 : X := (.cond (.t 7) (.seq (.reg [2] (.c (.q 9 [] (.mv (.t 0))) (.c (.e (some 10) [] (.bsl 9 1 [(.s []), (.s [120]), (.s [112, 66]), (.s [112, 32, 98])])) (.c (.e (some 11) [] (.call true 110 [(.t 9), (.t 10)])) (.c (.q 2 [] (.mv (.t 11))) .nil))))) .ret) (.seq (.reg [0, 12] (.c (.q 13 [] (.bin .eql (.t 6) (.c (.int .i64 1)))) (.c (.q 12 [] (.mv (.t 13))) .nil))) t73_8))
def t73_9 := b73_9
theorem u73_9 : vcK P t73_9 k e w = vcK P b73_9 k e w := rfl
abbrev b73_10 : X := (.blk 0 (.seq (.reg [0, 6, 7] (.c (.q 8 [] (.bin .eql (.t 6) (.c (.int .i64 0)))) (.c (.q 7 [] (.mv (.t 8))) .nil))) t73_9))
def t73_10 := b73_10
theorem u73_10 : vcK P t73_10 k e w = vcK P b73_10 k e w := rfl
abbrev b73_11 : X := (.seq (.reg [2] (.c (.q 27 [] (.mv (.t 0))) (.c (.e (some 28) [] (.call true 60 [(.t 27), (.c (.int .i64 9))])) (.c (.q 2 [] (.mv (.t 28))) .nil)))) .ret)
def t73_11 := b73_11
theorem u73_11 : vcK P t73_11 k e w = vcK P b73_11 k e w := rfl
abbrev b73_12 : X := (.seq (.seq (.reg [0, 6] (.c (.q 5 [] (.mv (.t 0))) (.c (.e (some 6) [] (.call true 61 [(.t 5), (.c (.int .i64 16))])) .nil))) t73_10) t73_11)
def t73_12 := b73_12
theorem u73_12 : vcK P t73_12 k e w = vcK P b73_12 k e w := rfl
abbrev b73_0 : X := (.seq (.reg [0] (.c (.q 2 [] (.mv (.s []))) .nil)) t73_12)
def x_sl1Cur_anyTouch := b73_0
theorem u73_0 : vcK P x_sl1Cur_anyTouch k e w = vcK P b73_0 k e w := rfl
def r_sl1Cur_anyTouch : List XO := [(.mv (.t 2))]
theorem c_sl1Cur_anyTouch : convF Tryz.prog [56, 58, 59, 60, 61, 62, 72, 73, 77, 97, 98, 109, 110, 111, 112, 115, 128, 136] Tryz.f73 [([0], []), ([0, 6], []), ([0, 6, 7], []), ([2], []), ([0, 12], []), ([0, 3], []), ([0, 3, 4], []), ([3, 4], [0]), ([0, 3, 4, 18], []), ([0, 3, 4], []), ([0, 3, 4], []), ([2], []), ([2], [])] = some (x_sl1Cur_anyTouch, r_sl1Cur_anyTouch) := by kernel_rfl
def us_sl1Cur_anyTouch :=  (aI (aI (aI @u73_0 (aI @u73_1 @u73_2)) (aI @u73_3 (aI @u73_4 @u73_5))) (aI (aI @u73_6 (aI @u73_7 @u73_8)) (aI (aI @u73_9 @u73_10) (aI @u73_11 @u73_12))))
end
/-- Calls in block b6, a result in block b4, a method in block b3. -/
structure QT (W : World) (b N : Nat) (w0 : World) (b3 b4 b6 : Nat) (cm : List Value) (p q : List UInt8) (w : World) : Prop where
  cur : Cur W b N w
  m : Blk w b3 cm 25
  res : Blk w b4 (fQ [] []) 27
  k : Blk w b6 (fQ p q) 27
  gr : w0.grownBy w (some b)
  lo : b < w0.heap.size ∧ w0.heap.size ≤ b3 ∧ b3 < b4 ∧ b4 < b6
section
variable {W : World} {b N M : Nat} {w0 : World} {b3 b4 b6 : Nat} {cm : List Value} {p q p' q' : List UInt8} {w w' : World}
theorem QT.draw (h : QT W b N w0 b3 b4 b6 cm p q w) (hc : Cur W b M w') (hg : w.grownBy w' (some b)) : QT W b M w0 b3 b4 b6 cm p q w' := by
  have hl := h.lo
  have key : ∀ c, c ≠ b → c < w.heap.size → w'.heap[c]? = w.heap[c]? := fun c hc hlt => hg.block c hlt (fun e => hc (Option.some.inj e))
  exact ⟨hc, h.m.same (key _ (by omega) h.m.lt), h.res.same (key _ (by omega) h.res.lt), h.k.same (key _ (by omega) h.k.lt), grown_trans h.gr hg, hl⟩
theorem QT.ext (h : QT W b N w0 b3 b4 b6 cm p q w) (hx : Ext w w') : QT W b N w0 b3 b4 b6 cm p q w' := h.draw (h.cur.ext hx) (grown_ext _ hx)
theorem QT.mono (h : QT W b N w0 b3 b4 b6 cm p q w) (hm : N ≤ M) : QT W b M w0 b3 b4 b6 cm p q w := ⟨h.cur.mono hm, h.m, h.res, h.k, h.gr, h.lo⟩
theorem QT.put (h : QT W b N w0 b3 b4 b6 cm p q w) (hu : Upd w w' b6) (hb : Blk w' b6 (fQ p' q') 27) : QT W b N w0 b3 b4 b6 cm p' q' w' := by
  have hl := h.lo
  exact ⟨h.cur.keep hu.grown (fun c hc => by have := Option.some.inj hc; omega), hu.blk h.m (by omega), hu.blk h.res (by omega), hb, grown_new h.gr hu.grown (fun c hc => by have := Option.some.inj hc; omega), hl⟩
end
theorem sl1Cur_calls_okc (W : World) (b n : Nat) (nm : List UInt8) (s : Nat) (v : Value) (hs : 3 ≤ s ∧ s ≤ 8) (w : World) (hn : n ≤ 700000000) (hc : Cur W b n w) : CurFn 59 [cV b, mV nm s v] W b n 10 w (fun r _ => ∃ p q, r = kV p q ∧ IsChange s p ∧ IsChange s q) := by
  (refine callsV_of mix Tryz.func59 c_sl1Cur_calls ?_; simp only [↓vsd, vsn, gW, qd, qv, ev, pick, argE, zipE, ne_eq, eq_self, forall_const, implies_true, if_true, if_false, reduceIte, reduceCtorEq, Nat.reduceEqDiff, Nat.reduceAdd, Nat.reduceLT, ↓us_sl1Cur_calls, r_sl1Cur_calls])
  refine m_al ?_
  rintro b3 w1 hb3 hblk3 hx1 hs1
  have h3 : Blk w1 b3 (fM nm s v) 25 := hblk3
  simp only [↓vsd, vsn, gW, qd, qv, ev, pick, argE, zipE, ne_eq, eq_self, forall_const, implies_true, if_true, if_false, reduceIte, reduceCtorEq, Nat.reduceEqDiff, Nat.reduceAdd, Nat.reduceLT, ↓us_sl1Cur_calls, r_sl1Cur_calls]
  refine m_al ?_
  rintro b4 w2 hb4 hblk4 hx2 hs2
  have h4 : Blk w2 b4 (fQ [] []) 27 := hblk4
  have h3 := h3.ext hx2
  have hx12 := hx1.trans hx2
  have hlt := hc.lt
  simp only [↓vsd, vsn, gW, qd, qv, ev, pick, argE, zipE, ne_eq, eq_self, forall_const, implies_true, if_true, if_false, reduceIte, reduceCtorEq, Nat.reduceEqDiff, Nat.reduceAdd, Nat.reduceLT, ↓us_sl1Cur_calls, r_sl1Cur_calls, h3.facts, fMg]
  refine m_callw (.inl rfl) (sl1Cur_change_ok W b _ s hs _ (by omega) (hc.ext hx12)) ?_
  rintro _ w3 ⟨hc3, hg3, p, rfl, hp⟩
  simp only [↓vsd, vsn, gW, qd, qv, ev, pick, argE, zipE, ne_eq, eq_self, forall_const, implies_true, if_true, if_false, reduceIte, reduceCtorEq, Nat.reduceEqDiff, Nat.reduceAdd, Nat.reduceLT, ↓us_sl1Cur_calls, r_sl1Cur_calls]
  refine m_callw (.inl rfl) (sl1Cur_change_ok W b _ s hs _ (by omega) hc3) ?_
  rintro _ w4 ⟨hc4, hg4, q, rfl, hq⟩
  simp only [↓vsd, vsn, gW, qd, qv, ev, pick, argE, zipE, ne_eq, eq_self, forall_const, implies_true, if_true, if_false, reduceIte, reduceCtorEq, Nat.reduceEqDiff, Nat.reduceAdd, Nat.reduceLT, ↓us_sl1Cur_calls, r_sl1Cur_calls]
  refine m_al ?_
  rintro b6 w5 hb6 hblk6 hx5 hs5
  simp only [↓vsd, vsn, gW, qd, qv, ev, pick, argE, zipE, ne_eq, eq_self, forall_const, implies_true, if_true, if_false, reduceIte, reduceCtorEq, Nat.reduceEqDiff, Nat.reduceAdd, Nat.reduceLT, ↓us_sl1Cur_calls, r_sl1Cur_calls]
  refine m_st hblk6 rfl (Nat.le_refl 2) (fQ_one _ _) ?_
  rintro w6 hblk6' hu6
  have hg34 := grown_trans hg3 hg4
  have hsz := hg34.size
  have h3' := (h3.same (hg34.block b3 h3.lt (fun e => by have := Option.some.inj e; omega))).ext hx5
  have h4' := (h4.same (hg34.block b4 h4.lt (fun e => by have := Option.some.inj e; have := hx1.size; omega))).ext hx5
  have hl2 := h4.lt
  have qs : QT W b (n + 4) w b3 b4 b6 (fM nm s v) p q w6 := ⟨((hc4.ext hx5).keep hu6.grown (fun c hc => by have := Option.some.inj hc; have := hx1.size; omega)).mono (by omega), hu6.blk h3' (by omega), hu6.blk h4' (by omega), hblk6', grown_new (grown_trans (grown_trans (grown_ext _ hx12) hg34) (grown_ext _ hx5)) hu6.grown (fun c hc => by have := Option.some.inj hc; have := hx12.size; omega), by omega⟩
  have hp8 : p.length ≤ 8 := by have := hp.len; omega
  have hq8 : q.length ≤ 8 := by have := hq.len; omega
  by_cases hA : 4 ≤ s ∧ s % 2 = 0
  · have hA1 : (4 : Int) ≤ s := by omega
    have hA2 : ((s % 2 : Nat) : Int) = 0 := by omega
    have hs5 : ¬ (s : Int) = 5 := by omega
    simp only [↓vsd, vsn, gW, qd, qv, ev, pick, argE, zipE, ne_eq, eq_self, forall_const, implies_true, if_true, if_false, reduceIte, reduceCtorEq, Nat.reduceEqDiff, Nat.reduceAdd, Nat.reduceLT, ↓us_sl1Cur_calls, r_sl1Cur_calls, hA1, hA2]
    refine ⟨by decide, m_callw (.inl rfl) (sl1Cur_one_ok W b _ 4 (by omega) _ (by omega) qs.cur) ?_⟩
    rintro _ w7 ⟨hc7, hg7, x, rfl⟩
    have qs := qs.draw hc7 hg7
    cases x
    · simp only [↓vsd, vsn, gW, qd, qv, ev, pick, argE, zipE, ne_eq, eq_self, forall_const, implies_true, if_true, if_false, reduceIte, reduceCtorEq, Nat.reduceEqDiff, Nat.reduceAdd, Nat.reduceLT, ↓us_sl1Cur_calls, r_sl1Cur_calls]
      refine m_st qs.k rfl (by decide : 0 + 1 ≤ 2) (fS_one _) ?_
      rintro w8 hblk8 hu8
      have qs := qs.put hu8 (show Blk w8 b6 (fQ [49, 52] q) _ from hblk8)
      simp only [↓vsd, vsn, gW, qd, qv, ev, pick, argE, zipE, ne_eq, eq_self, forall_const, implies_true, if_true, if_false, reduceIte, reduceCtorEq, Nat.reduceEqDiff, Nat.reduceAdd, Nat.reduceLT, ↓us_sl1Cur_calls, r_sl1Cur_calls]
      refine m_st qs.k rfl (by decide : 1 + 1 ≤ 2) (fS_one _) ?_
      rintro w9 hblk9 hu9
      have qs := qs.put hu9 (show Blk w9 b6 (fQ [49, 52] [49, 50, 51, 52]) _ from hblk9)
      by_cases h4 : (s : Int) = 4
      · simp only [↓vsd, vsn, gW, qd, qv, ev, pick, argE, zipE, ne_eq, eq_self, forall_const, implies_true, if_true, if_false, reduceIte, reduceCtorEq, Nat.reduceEqDiff, Nat.reduceAdd, Nat.reduceLT, ↓us_sl1Cur_calls, r_sl1Cur_calls, h4]
        refine m_st qs.k rfl (by decide : 1 + 1 ≤ 2) (fS_one _) ?_
        rintro w10 hblk10 hu10
        have qs := qs.put hu10 (show Blk w10 b6 (fQ [49, 52] [49, 50]) _ from hblk10)
        simp only [↓vsd, vsn, gW, qd, qv, ev, pick, argE, zipE, ne_eq, eq_self, forall_const, implies_true, if_true, if_false, reduceIte, reduceCtorEq, Nat.reduceEqDiff, Nat.reduceAdd, Nat.reduceLT, ↓us_sl1Cur_calls, r_sl1Cur_calls]
        refine m_st qs.k rfl (by decide : 0 + 1 ≤ 2) (fS_one _) ?_
        rintro w11 hblk11 hu11
        have qs := qs.put hu11 (show Blk w11 b6 (fQ [49, 52] [49, 50]) _ from hblk11)
        have h45 : ¬ (4 : Int) = 5 := by decide
        simp only [↓vsd, vsn, gW, qd, qv, ev, pick, argE, zipE, ne_eq, eq_self, forall_const, implies_true, if_true, if_false, reduceIte, reduceCtorEq, Nat.reduceEqDiff, Nat.reduceAdd, Nat.reduceLT, ↓us_sl1Cur_calls, r_sl1Cur_calls, h4, h45]
        have qs := qs.mono (M := n + 10) (by omega)
        simp only [↓vsd, vsn, gW, qd, qv, ev, pick, argE, zipE, ne_eq, eq_self, forall_const, implies_true, if_true, if_false, reduceIte, reduceCtorEq, Nat.reduceEqDiff, Nat.reduceAdd, Nat.reduceLT, ↓us_sl1Cur_calls, r_sl1Cur_calls, qs.k.facts, fQg]
        refine m_st qs.res rfl (Nat.le_refl 2) (fQ_one _ _) ?_
        rintro wr hbr hur
        have hbr' : Blk wr b4 (fQ _ _) 27 := hbr
        have hlo := qs.lo
        simp only [↓vsd, vsn, gW, qd, qv, ev, pick, argE, zipE, ne_eq, eq_self, forall_const, implies_true, if_true, if_false, reduceIte, reduceCtorEq, Nat.reduceEqDiff, Nat.reduceAdd, Nat.reduceLT, ↓us_sl1Cur_calls, r_sl1Cur_calls, hbr'.facts, fQg]
        exact ⟨qs.cur.keep hur.grown (fun c hc => by have := Option.some.inj hc; omega), grown_new qs.gr hur.grown (fun c hc => by have := Option.some.inj hc; omega), _, _, rfl, by first | exact hp | exact hq | (obtain rfl | rfl | rfl | rfl : s = 4 ∨ s = 5 ∨ s = 6 ∨ s = 8 := by omega) <;> first | omega | decide, by first | exact hp | exact hq | (obtain rfl | rfl | rfl | rfl : s = 4 ∨ s = 5 ∨ s = 6 ∨ s = 8 := by omega) <;> first | omega | decide⟩
      · simp only [↓vsd, vsn, gW, qd, qv, ev, pick, argE, zipE, ne_eq, eq_self, forall_const, implies_true, if_true, if_false, reduceIte, reduceCtorEq, Nat.reduceEqDiff, Nat.reduceAdd, Nat.reduceLT, ↓us_sl1Cur_calls, r_sl1Cur_calls, h4, hs5]
        have qs := qs.mono (M := n + 10) (by omega)
        simp only [↓vsd, vsn, gW, qd, qv, ev, pick, argE, zipE, ne_eq, eq_self, forall_const, implies_true, if_true, if_false, reduceIte, reduceCtorEq, Nat.reduceEqDiff, Nat.reduceAdd, Nat.reduceLT, ↓us_sl1Cur_calls, r_sl1Cur_calls, qs.k.facts, fQg]
        refine m_st qs.res rfl (Nat.le_refl 2) (fQ_one _ _) ?_
        rintro wr hbr hur
        have hbr' : Blk wr b4 (fQ _ _) 27 := hbr
        have hlo := qs.lo
        simp only [↓vsd, vsn, gW, qd, qv, ev, pick, argE, zipE, ne_eq, eq_self, forall_const, implies_true, if_true, if_false, reduceIte, reduceCtorEq, Nat.reduceEqDiff, Nat.reduceAdd, Nat.reduceLT, ↓us_sl1Cur_calls, r_sl1Cur_calls, hbr'.facts, fQg]
        exact ⟨qs.cur.keep hur.grown (fun c hc => by have := Option.some.inj hc; omega), grown_new qs.gr hur.grown (fun c hc => by have := Option.some.inj hc; omega), _, _, rfl, by first | exact hp | exact hq | (obtain rfl | rfl | rfl | rfl : s = 4 ∨ s = 5 ∨ s = 6 ∨ s = 8 := by omega) <;> first | omega | decide, by first | exact hp | exact hq | (obtain rfl | rfl | rfl | rfl : s = 4 ∨ s = 5 ∨ s = 6 ∨ s = 8 := by omega) <;> first | omega | decide⟩
    · simp only [↓vsd, vsn, gW, qd, qv, ev, pick, argE, zipE, ne_eq, eq_self, forall_const, implies_true, if_true, if_false, reduceIte, reduceCtorEq, Nat.reduceEqDiff, Nat.reduceAdd, Nat.reduceLT, ↓us_sl1Cur_calls, r_sl1Cur_calls, hs5]
      have qs := qs.mono (M := n + 10) (by omega)
      simp only [↓vsd, vsn, gW, qd, qv, ev, pick, argE, zipE, ne_eq, eq_self, forall_const, implies_true, if_true, if_false, reduceIte, reduceCtorEq, Nat.reduceEqDiff, Nat.reduceAdd, Nat.reduceLT, ↓us_sl1Cur_calls, r_sl1Cur_calls, qs.k.facts, fQg]
      refine m_st qs.res rfl (Nat.le_refl 2) (fQ_one _ _) ?_
      rintro wr hbr hur
      have hbr' : Blk wr b4 (fQ _ _) 27 := hbr
      have hlo := qs.lo
      simp only [↓vsd, vsn, gW, qd, qv, ev, pick, argE, zipE, ne_eq, eq_self, forall_const, implies_true, if_true, if_false, reduceIte, reduceCtorEq, Nat.reduceEqDiff, Nat.reduceAdd, Nat.reduceLT, ↓us_sl1Cur_calls, r_sl1Cur_calls, hbr'.facts, fQg]
      exact ⟨qs.cur.keep hur.grown (fun c hc => by have := Option.some.inj hc; omega), grown_new qs.gr hur.grown (fun c hc => by have := Option.some.inj hc; omega), _, _, rfl, by first | exact hp | exact hq | (obtain rfl | rfl | rfl | rfl : s = 4 ∨ s = 5 ∨ s = 6 ∨ s = 8 := by omega) <;> first | omega | decide, by first | exact hp | exact hq | (obtain rfl | rfl | rfl | rfl : s = 4 ∨ s = 5 ∨ s = 6 ∨ s = 8 := by omega) <;> first | omega | decide⟩
  · by_cases h5 : s = 5
    · have h5I : (s : Int) = 5 := by omega
      have h43 : (4 : Int) ≤ s := by omega
      have h2 : ¬ ((s % 2 : Nat) : Int) = 0 := by omega
      simp only [↓vsd, vsn, gW, qd, qv, ev, pick, argE, zipE, ne_eq, eq_self, forall_const, implies_true, if_true, if_false, reduceIte, reduceCtorEq, Nat.reduceEqDiff, Nat.reduceAdd, Nat.reduceLT, ↓us_sl1Cur_calls, r_sl1Cur_calls, h43, h2]
      refine ⟨by decide, ?_⟩
      simp only [↓vsd, vsn, gW, qd, qv, ev, pick, argE, zipE, ne_eq, eq_self, forall_const, implies_true, if_true, if_false, reduceIte, reduceCtorEq, Nat.reduceEqDiff, Nat.reduceAdd, Nat.reduceLT, ↓us_sl1Cur_calls, r_sl1Cur_calls, h5I]
      refine m_callw (.inl rfl) (sl1Cur_one_ok W b _ 4 (by omega) _ (by omega) qs.cur) ?_
      rintro _ w7 ⟨hc7, hg7, x, rfl⟩
      have qs := qs.draw hc7 hg7
      cases x
      · simp only [↓vsd, vsn, gW, qd, qv, ev, pick, argE, zipE, ne_eq, eq_self, forall_const, implies_true, if_true, if_false, reduceIte, reduceCtorEq, Nat.reduceEqDiff, Nat.reduceAdd, Nat.reduceLT, ↓us_sl1Cur_calls, r_sl1Cur_calls]
        refine m_st qs.k rfl (by decide : 0 + 1 ≤ 2) (fS_one _) ?_
        rintro w8 hblk8 hu8
        have qs := qs.put hu8 (show Blk w8 b6 (fQ [49, 52, 53] q) _ from hblk8)
        simp only [↓vsd, vsn, gW, qd, qv, ev, pick, argE, zipE, ne_eq, eq_self, forall_const, implies_true, if_true, if_false, reduceIte, reduceCtorEq, Nat.reduceEqDiff, Nat.reduceAdd, Nat.reduceLT, ↓us_sl1Cur_calls, r_sl1Cur_calls]
        refine m_st qs.k rfl (by decide : 1 + 1 ≤ 2) (fS_one _) ?_
        rintro w9 hblk9 hu9
        have qs := qs.put hu9 (show Blk w9 b6 (fQ [49, 52, 53] [49, 50, 51]) _ from hblk9)
        simp only [↓vsd, vsn, gW, qd, qv, ev, pick, argE, zipE, ne_eq, eq_self, forall_const, implies_true, if_true, if_false, reduceIte, reduceCtorEq, Nat.reduceEqDiff, Nat.reduceAdd, Nat.reduceLT, ↓us_sl1Cur_calls, r_sl1Cur_calls]
        have qs := qs.mono (M := n + 10) (by omega)
        simp only [↓vsd, vsn, gW, qd, qv, ev, pick, argE, zipE, ne_eq, eq_self, forall_const, implies_true, if_true, if_false, reduceIte, reduceCtorEq, Nat.reduceEqDiff, Nat.reduceAdd, Nat.reduceLT, ↓us_sl1Cur_calls, r_sl1Cur_calls, qs.k.facts, fQg]
        refine m_st qs.res rfl (Nat.le_refl 2) (fQ_one _ _) ?_
        rintro wr hbr hur
        have hbr' : Blk wr b4 (fQ _ _) 27 := hbr
        have hlo := qs.lo
        simp only [↓vsd, vsn, gW, qd, qv, ev, pick, argE, zipE, ne_eq, eq_self, forall_const, implies_true, if_true, if_false, reduceIte, reduceCtorEq, Nat.reduceEqDiff, Nat.reduceAdd, Nat.reduceLT, ↓us_sl1Cur_calls, r_sl1Cur_calls, hbr'.facts, fQg]
        exact ⟨qs.cur.keep hur.grown (fun c hc => by have := Option.some.inj hc; omega), grown_new qs.gr hur.grown (fun c hc => by have := Option.some.inj hc; omega), _, _, rfl, by first | exact hp | exact hq | (obtain rfl | rfl | rfl | rfl : s = 4 ∨ s = 5 ∨ s = 6 ∨ s = 8 := by omega) <;> first | omega | decide, by first | exact hp | exact hq | (obtain rfl | rfl | rfl | rfl : s = 4 ∨ s = 5 ∨ s = 6 ∨ s = 8 := by omega) <;> first | omega | decide⟩
      · simp only [↓vsd, vsn, gW, qd, qv, ev, pick, argE, zipE, ne_eq, eq_self, forall_const, implies_true, if_true, if_false, reduceIte, reduceCtorEq, Nat.reduceEqDiff, Nat.reduceAdd, Nat.reduceLT, ↓us_sl1Cur_calls, r_sl1Cur_calls]
        have qs := qs.mono (M := n + 10) (by omega)
        simp only [↓vsd, vsn, gW, qd, qv, ev, pick, argE, zipE, ne_eq, eq_self, forall_const, implies_true, if_true, if_false, reduceIte, reduceCtorEq, Nat.reduceEqDiff, Nat.reduceAdd, Nat.reduceLT, ↓us_sl1Cur_calls, r_sl1Cur_calls, qs.k.facts, fQg]
        refine m_st qs.res rfl (Nat.le_refl 2) (fQ_one _ _) ?_
        rintro wr hbr hur
        have hbr' : Blk wr b4 (fQ _ _) 27 := hbr
        have hlo := qs.lo
        simp only [↓vsd, vsn, gW, qd, qv, ev, pick, argE, zipE, ne_eq, eq_self, forall_const, implies_true, if_true, if_false, reduceIte, reduceCtorEq, Nat.reduceEqDiff, Nat.reduceAdd, Nat.reduceLT, ↓us_sl1Cur_calls, r_sl1Cur_calls, hbr'.facts, fQg]
        exact ⟨qs.cur.keep hur.grown (fun c hc => by have := Option.some.inj hc; omega), grown_new qs.gr hur.grown (fun c hc => by have := Option.some.inj hc; omega), _, _, rfl, by first | exact hp | exact hq | (obtain rfl | rfl | rfl | rfl : s = 4 ∨ s = 5 ∨ s = 6 ∨ s = 8 := by omega) <;> first | omega | decide, by first | exact hp | exact hq | (obtain rfl | rfl | rfl | rfl : s = 4 ∨ s = 5 ∨ s = 6 ∨ s = 8 := by omega) <;> first | omega | decide⟩
    · have hs5 : ¬ (s : Int) = 5 := by omega
      have hAd : (decide ((4 : Int) ≤ s) && decide (((s % 2 : Nat) : Int) = 0)) = false := by rw [← Bool.decide_and]; exact decide_eq_false (fun hh => hA ⟨by omega, by omega⟩)
      by_cases h43 : (4 : Int) ≤ s
      · have h2 : ¬ ((s % 2 : Nat) : Int) = 0 := fun hh => hA ⟨by omega, by omega⟩
        simp only [↓vsd, vsn, gW, qd, qv, ev, pick, argE, zipE, ne_eq, eq_self, forall_const, implies_true, if_true, if_false, reduceIte, reduceCtorEq, Nat.reduceEqDiff, Nat.reduceAdd, Nat.reduceLT, ↓us_sl1Cur_calls, r_sl1Cur_calls, h43, h2, hs5]
        refine ⟨by decide, ?_⟩
        have qs := qs.mono (M := n + 10) (by omega)
        simp only [↓vsd, vsn, gW, qd, qv, ev, pick, argE, zipE, ne_eq, eq_self, forall_const, implies_true, if_true, if_false, reduceIte, reduceCtorEq, Nat.reduceEqDiff, Nat.reduceAdd, Nat.reduceLT, ↓us_sl1Cur_calls, r_sl1Cur_calls, qs.k.facts, fQg]
        refine m_st qs.res rfl (Nat.le_refl 2) (fQ_one _ _) ?_
        rintro wr hbr hur
        have hbr' : Blk wr b4 (fQ _ _) 27 := hbr
        have hlo := qs.lo
        simp only [↓vsd, vsn, gW, qd, qv, ev, pick, argE, zipE, ne_eq, eq_self, forall_const, implies_true, if_true, if_false, reduceIte, reduceCtorEq, Nat.reduceEqDiff, Nat.reduceAdd, Nat.reduceLT, ↓us_sl1Cur_calls, r_sl1Cur_calls, hbr'.facts, fQg]
        exact ⟨qs.cur.keep hur.grown (fun c hc => by have := Option.some.inj hc; omega), grown_new qs.gr hur.grown (fun c hc => by have := Option.some.inj hc; omega), _, _, rfl, by first | exact hp | exact hq | (obtain rfl | rfl | rfl | rfl : s = 4 ∨ s = 5 ∨ s = 6 ∨ s = 8 := by omega) <;> first | omega | decide, by first | exact hp | exact hq | (obtain rfl | rfl | rfl | rfl : s = 4 ∨ s = 5 ∨ s = 6 ∨ s = 8 := by omega) <;> first | omega | decide⟩
      · simp only [↓vsd, vsn, gW, qd, qv, ev, pick, argE, zipE, ne_eq, eq_self, forall_const, implies_true, if_true, if_false, reduceIte, reduceCtorEq, Nat.reduceEqDiff, Nat.reduceAdd, Nat.reduceLT, ↓us_sl1Cur_calls, r_sl1Cur_calls, h43, hs5]
        have qs := qs.mono (M := n + 10) (by omega)
        simp only [↓vsd, vsn, gW, qd, qv, ev, pick, argE, zipE, ne_eq, eq_self, forall_const, implies_true, if_true, if_false, reduceIte, reduceCtorEq, Nat.reduceEqDiff, Nat.reduceAdd, Nat.reduceLT, ↓us_sl1Cur_calls, r_sl1Cur_calls, qs.k.facts, fQg]
        refine m_st qs.res rfl (Nat.le_refl 2) (fQ_one _ _) ?_
        rintro wr hbr hur
        have hbr' : Blk wr b4 (fQ _ _) 27 := hbr
        have hlo := qs.lo
        simp only [↓vsd, vsn, gW, qd, qv, ev, pick, argE, zipE, ne_eq, eq_self, forall_const, implies_true, if_true, if_false, reduceIte, reduceCtorEq, Nat.reduceEqDiff, Nat.reduceAdd, Nat.reduceLT, ↓us_sl1Cur_calls, r_sl1Cur_calls, hbr'.facts, fQg]
        exact ⟨qs.cur.keep hur.grown (fun c hc => by have := Option.some.inj hc; omega), grown_new qs.gr hur.grown (fun c hc => by have := Option.some.inj hc; omega), _, _, rfl, by first | exact hp | exact hq | (obtain rfl | rfl | rfl | rfl : s = 4 ∨ s = 5 ∨ s = 6 ∨ s = 8 := by omega) <;> first | omega | decide, by first | exact hp | exact hq | (obtain rfl | rfl | rfl | rfl : s = 4 ∨ s = 5 ∨ s = 6 ∨ s = 8 := by omega) <;> first | omega | decide⟩
theorem sl1Cur_calls_ok (W : World) (b n : Nat) (nm : List UInt8) (s : Nat) (v : Value) (hs : 3 ≤ s ∧ s ≤ 8) (w : World) (hn : n ≤ 700000000) (hc : Cur W b n w) : CurFn 59 [cV b, mV nm s v] W b n 10 w (fun r _ => ∃ p q, r = kV p q ∧ p.length ≤ 8 ∧ q.length ≤ 8) := by
  refine (sl1Cur_calls_okc W b n nm s v hs w hn hc).mono fun r w' ⟨h1, h2, p, q, e, hp, hq⟩ => ⟨h1, h2, p, q, e, ?_, ?_⟩
  · have := hp.len; omega
  · have := hq.len; omega
/-- The calls for a method that may be spoilt. -/
theorem sl1Cur_anyCalls_ok (W : World) (b n : Nat) (nm : List UInt8) (st : Int) (v : Value) (cs : List (List UInt8)) (hnm : nm.length ≤ 11) (hcs : cs.length ≤ 60) (hs : ∀ c ∈ cs, c.length ≤ 8) (w : World) (hn : n ≤ 700000000) (hc : Cur W b n w)
    (h : ∀ w', w.grownBy w' (some b) → Sq fS 1 w' v cs) : CurFn 72 [cV b, mV nm st v] W b n 20 w (fun r _ => ∃ p q, r = kV p q ∧ p.length ≤ 8 ∧ q.length ≤ 8) := by
  have hlt := hc.lt
  (refine callsV_of mix Tryz.func72 c_sl1Cur_anyCalls ?_; simp only [↓vsd, vsn, gW, qd, qv, ev, pick, argE, zipE, ne_eq, eq_self, forall_const, implies_true, if_true, if_false, reduceIte, reduceCtorEq, Nat.reduceEqDiff, Nat.reduceAdd, Nat.reduceLT, ↓us_sl1Cur_anyCalls, r_sl1Cur_anyCalls])
  refine m_al ?_
  rintro b3 w1 hb3 hblk3 hx1 hs1
  have h3 : Blk w1 b3 (fM nm st v) 25 := hblk3
  simp only [↓vsd, vsn, gW, qd, qv, ev, pick, argE, zipE, ne_eq, eq_self, forall_const, implies_true, if_true, if_false, reduceIte, reduceCtorEq, Nat.reduceEqDiff, Nat.reduceAdd, Nat.reduceLT, ↓us_sl1Cur_anyCalls, r_sl1Cur_anyCalls]
  refine m_al ?_
  rintro b4 w2 hb4 hblk4 hx2 hs2
  have h4 : Blk w2 b4 (fQ [] []) 27 := hblk4
  have h3 := h3.ext hx2
  have hx12 := hx1.trans hx2
  simp only [↓vsd, vsn, gW, qd, qv, ev, pick, argE, zipE, ne_eq, eq_self, forall_const, implies_true, if_true, if_false, reduceIte, reduceCtorEq, Nat.reduceEqDiff, Nat.reduceAdd, Nat.reduceLT, ↓us_sl1Cur_anyCalls, r_sl1Cur_anyCalls, h3.facts, fMg]
  refine m_call (sl4Good_ok nm st v cs (by omega) (fun c hc => by have := hs c hc; omega) (by omega) _ (h _ (grown_ext _ hx12))) ?_
  rintro _ w3 hx3 rfl
  have hx13 := hx12.trans hx3
  have h3 := h3.ext hx3
  have h4 := h4.ext hx3
  have hc3 := hc.ext hx13
  by_cases hm : IsMethod nm st cs
  · obtain ⟨s, rfl⟩ : ∃ s : Nat, st = s := ⟨st.toNat, by have := hm.2.1; omega⟩
    simp only [↓vsd, vsn, gW, qd, qv, ev, pick, argE, zipE, ne_eq, eq_self, forall_const, implies_true, if_true, if_false, reduceIte, reduceCtorEq, Nat.reduceEqDiff, Nat.reduceAdd, Nat.reduceLT, ↓us_sl1Cur_anyCalls, r_sl1Cur_anyCalls, hm, h3.facts, fMg]
    refine m_callw (.inl rfl) (sl1Cur_calls_ok W b _ nm s v (by have := hm.2.1; omega) _ (by omega) hc3) ?_
    rintro _ w4 ⟨hc4, hg4, p, q, rfl, hp8, hq8⟩
    simp only [↓vsd, vsn, gW, qd, qv, ev, pick, argE, zipE, ne_eq, eq_self, forall_const, implies_true, if_true, if_false, reduceIte, reduceCtorEq, Nat.reduceEqDiff, Nat.reduceAdd, Nat.reduceLT, ↓us_sl1Cur_anyCalls, r_sl1Cur_anyCalls]
    refine m_al ?_
    rintro b6 w5 hb6 hblk6 hx5 hs5
    simp only [↓vsd, vsn, gW, qd, qv, ev, pick, argE, zipE, ne_eq, eq_self, forall_const, implies_true, if_true, if_false, reduceIte, reduceCtorEq, Nat.reduceEqDiff, Nat.reduceAdd, Nat.reduceLT, ↓us_sl1Cur_anyCalls, r_sl1Cur_anyCalls]
    refine m_st hblk6 rfl (Nat.le_refl 2) (fQ_one _ _) ?_
    rintro w6 hblk6' hu6
    have hsz := hg4.size
    have hl3 := h3.lt
    have hl4 := h4.lt
    have h3' := (h3.same (hg4.block b3 h3.lt (fun e => by have := Option.some.inj e; omega))).ext hx5
    have h4' := (h4.same (hg4.block b4 h4.lt (fun e => by have := Option.some.inj e; have := hx1.size; omega))).ext hx5
    have qs : QT W b (n + 10) w b3 b4 b6 (fM nm s v) p q w6 := ⟨((hc4.ext hx5).keep hu6.grown (fun c hc => by have := Option.some.inj hc; have := hx13.size; omega)).mono (by omega), hu6.blk h3' (by omega), hu6.blk h4' (by omega), hblk6', grown_new (grown_trans (grown_trans (grown_ext _ hx13) hg4) (grown_ext _ hx5)) hu6.grown (fun c hc => by have := Option.some.inj hc; have := hx13.size; omega), by omega⟩
    simp only [↓vsd, vsn, gW, qd, qv, ev, pick, argE, zipE, ne_eq, eq_self, forall_const, implies_true, if_true, if_false, reduceIte, reduceCtorEq, Nat.reduceEqDiff, Nat.reduceAdd, Nat.reduceLT, ↓us_sl1Cur_anyCalls, r_sl1Cur_anyCalls]
    refine m_callw (.inl rfl) (sl1Cur_one_ok W b _ 16 (by omega) _ (by omega) qs.cur) ?_
    rintro _ w7 ⟨hc7, hg7, x, rfl⟩
    have qs := qs.draw hc7 hg7
    cases x
    · simp only [↓vsd, vsn, gW, qd, qv, ev, pick, argE, zipE, ne_eq, eq_self, forall_const, implies_true, if_true, if_false, reduceIte, reduceCtorEq, Nat.reduceEqDiff, Nat.reduceAdd, Nat.reduceLT, ↓us_sl1Cur_anyCalls, r_sl1Cur_anyCalls, qs.k.facts, fQg]
      refine m_st qs.res rfl (Nat.le_refl 2) (fQ_one _ _) ?_
      rintro wr hbr hur
      have hbr' : Blk wr b4 (fQ _ _) 27 := hbr
      simp only [↓vsd, vsn, gW, qd, qv, ev, pick, argE, zipE, ne_eq, eq_self, forall_const, implies_true, if_true, if_false, reduceIte, reduceCtorEq, Nat.reduceEqDiff, Nat.reduceAdd, Nat.reduceLT, ↓us_sl1Cur_anyCalls, r_sl1Cur_anyCalls, hbr'.facts, fQg]
      have hlo := qs.lo
      exact ⟨(qs.cur.keep hur.grown (fun c hc => by have := Option.some.inj hc; omega)).mono (by omega), grown_new qs.gr hur.grown (fun c hc => by have := Option.some.inj hc; omega), _, _, rfl, hp8, hq8⟩
    · simp only [↓vsd, vsn, gW, qd, qv, ev, pick, argE, zipE, ne_eq, eq_self, forall_const, implies_true, if_true, if_false, reduceIte, reduceCtorEq, Nat.reduceEqDiff, Nat.reduceAdd, Nat.reduceLT, ↓us_sl1Cur_anyCalls, r_sl1Cur_anyCalls]
      refine m_bsl (by simp [S]; repeat' constructor) ?_
      rintro b8 w8 hb8 hblk8 hx8 hs8
      have qs := qs.ext hx8
      simp only [↓vsd, vsn, gW, qd, qv, ev, pick, argE, zipE, ne_eq, eq_self, forall_const, implies_true, if_true, if_false, reduceIte, reduceCtorEq, Nat.reduceEqDiff, Nat.reduceAdd, Nat.reduceLT, ↓us_sl1Cur_anyCalls, r_sl1Cur_anyCalls]
      have hcl := qs.cur.lt
      refine m_callw (by first | exact .inl rfl | exact .inr rfl) (sl1Cur_of_ok W b _ _ [[], [120], [49], [49, 51], [57, 57]] w8 (by omega) (by decide) qs.cur (Sq.litC _ _ fS_len hblk8 rfl rfl (by have := hg7.size; have := hx5.size; have := hu6.size; have := hx13.size; omega))) ?_
      rintro _ w9 ⟨hc9, hg9, x, rfl, hx⟩
      have hx8' : x.length ≤ 8 := by simp only [List.mem_cons, List.not_mem_nil, or_false] at hx; rcases hx with rfl | rfl | rfl | rfl | rfl <;> decide
      have qs := qs.draw hc9 hg9
      simp only [↓vsd, vsn, gW, qd, qv, ev, pick, argE, zipE, ne_eq, eq_self, forall_const, implies_true, if_true, if_false, reduceIte, reduceCtorEq, Nat.reduceEqDiff, Nat.reduceAdd, Nat.reduceLT, ↓us_sl1Cur_anyCalls, r_sl1Cur_anyCalls]
      refine m_st qs.k rfl (by decide : 0 + 1 ≤ 2) (fS_one _) ?_
      rintro w10 hblk10 hu10
      have qs := qs.put hu10 (show Blk w10 b6 (fQ x q) _ from hblk10)
      simp only [↓vsd, vsn, gW, qd, qv, ev, pick, argE, zipE, ne_eq, eq_self, forall_const, implies_true, if_true, if_false, reduceIte, reduceCtorEq, Nat.reduceEqDiff, Nat.reduceAdd, Nat.reduceLT, ↓us_sl1Cur_anyCalls, r_sl1Cur_anyCalls, qs.k.facts, fQg]
      refine m_st qs.res rfl (Nat.le_refl 2) (fQ_one _ _) ?_
      rintro wr hbr hur
      have hbr' : Blk wr b4 (fQ _ _) 27 := hbr
      simp only [↓vsd, vsn, gW, qd, qv, ev, pick, argE, zipE, ne_eq, eq_self, forall_const, implies_true, if_true, if_false, reduceIte, reduceCtorEq, Nat.reduceEqDiff, Nat.reduceAdd, Nat.reduceLT, ↓us_sl1Cur_anyCalls, r_sl1Cur_anyCalls, hbr'.facts, fQg]
      have hlo := qs.lo
      exact ⟨(qs.cur.keep hur.grown (fun c hc => by have := Option.some.inj hc; omega)).mono (by omega), grown_new qs.gr hur.grown (fun c hc => by have := Option.some.inj hc; omega), _, _, rfl, hx8', hq8⟩
  · simp only [↓vsd, vsn, gW, qd, qv, ev, pick, argE, zipE, ne_eq, eq_self, forall_const, implies_true, if_true, if_false, reduceIte, reduceCtorEq, Nat.reduceEqDiff, Nat.reduceAdd, Nat.reduceLT, ↓us_sl1Cur_anyCalls, r_sl1Cur_anyCalls, hm]
    refine m_st h4 rfl (Nat.le_refl 2) (fQ_one [49, 52] [49, 50, 51, 52]) ?_
    rintro wr hbr hur
    have hbr' : Blk wr b4 (fQ _ _) 27 := hbr
    simp only [↓vsd, vsn, gW, qd, qv, ev, pick, argE, zipE, ne_eq, eq_self, forall_const, implies_true, if_true, if_false, reduceIte, reduceCtorEq, Nat.reduceEqDiff, Nat.reduceAdd, Nat.reduceLT, ↓us_sl1Cur_anyCalls, r_sl1Cur_anyCalls, hbr'.facts, fQg]
    exact ⟨(hc3.keep hur.grown (fun c hc => by have := Option.some.inj hc; have := hx1.size; omega)).mono (by omega), grown_new (grown_ext _ hx13) hur.grown (fun c hc => by have := Option.some.inj hc; have := hx1.size; omega), _, _, rfl, by decide, by decide⟩
theorem sl1Cur_touch_ok (W : World) (b n m : Nat) (hm : m ≤ 100) (w : World) (hn : n ≤ 700000000) (hc : Cur W b n w) : CurFn 60 [cV b, .int .i64 m] W b n 300 w (fun r _ => ∃ x, r = S x ∧ x.length ≤ 2 * (m + 1)) := by
  (refine callsV_of mix Tryz.func60 c_sl1Cur_touch ?_; simp only [↓vsd, vsn, gW, qd, qv, ev, pick, argE, zipE, ne_eq, eq_self, forall_const, implies_true, if_true, if_false, reduceIte, reduceCtorEq, Nat.reduceEqDiff, Nat.reduceAdd, Nat.reduceLT, ↓us_sl1Cur_touch, r_sl1Cur_touch])
  refine m_callw (.inl rfl) (sl1Cur_pick_ok W b n m (by omega) _ (by omega) hc) ?_
  rintro _ w1 ⟨hc1, hg1, k, rfl, hk⟩
  simp only [↓vsd, vsn, gW, qd, qv, ev, pick, argE, zipE, ne_eq, eq_self, forall_const, implies_true, if_true, if_false, reduceIte, reduceCtorEq, Nat.reduceEqDiff, Nat.reduceAdd, Nat.reduceLT, ↓us_sl1Cur_touch, r_sl1Cur_touch]
  refine ⟨inR_i64 (by omega), m_loop (fun j vs w' => ∃ (t : List UInt8), vs = [S t, .int .i64 j] ∧ t.length + j ≤ m + 1 ∧ Cur W b (n + 2 + 2 * (m + 1 - j)) w' ∧ w.grownBy w' (some b)) (k + 1) ⟨[], by rw [show (1 : Int) + k = ((k + 1 : Nat) : Int) by omega], by simp only [List.length_nil]; omega, hc1.mono (by omega), hg1⟩ ?_⟩
  rintro j vs w2 ⟨t, rfl, htl, hc2, hg2⟩
  by_cases hj : 0 < j
  · have hjI : (0 : Int) < j := by omega
    simp only [↓vsd, vsn, gW, qd, qv, ev, pick, argE, zipE, ne_eq, eq_self, forall_const, implies_true, if_true, if_false, reduceIte, reduceCtorEq, Nat.reduceEqDiff, Nat.reduceAdd, Nat.reduceLT, ↓us_sl1Cur_touch, r_sl1Cur_touch, hjI]
    refine m_bsl (by simp [S]; repeat' constructor) ?_
    rintro b3 w3 hb3 hblk3 hx3 hs3
    have hlt := hc2.lt
    simp only [↓vsd, vsn, gW, qd, qv, ev, pick, argE, zipE, ne_eq, eq_self, forall_const, implies_true, if_true, if_false, reduceIte, reduceCtorEq, Nat.reduceEqDiff, Nat.reduceAdd, Nat.reduceLT, ↓us_sl1Cur_touch, r_sl1Cur_touch]
    refine m_callw (by first | exact .inl rfl | exact .inr rfl) (sl1Cur_of_ok W b _ _ [[112], [112], [98], [115], [98]] w3 (by omega) (by decide) (hc2.ext (by first | exact hx3 | exact ud hx3)) (Sq.litC _ _ fS_len hblk3 rfl rfl (by omega))) ?_
    rintro _ w4 ⟨hc4, hg4, x, rfl, hx⟩
    have hx1 : x.length = 1 := by simp only [List.mem_cons, List.not_mem_nil, or_false] at hx; rcases hx with rfl | rfl | rfl | rfl | rfl <;> rfl
    simp only [↓vsd, vsn, gW, qd, qv, ev, pick, argE, zipE, ne_eq, eq_self, forall_const, implies_true, if_true, if_false, reduceIte, reduceCtorEq, Nat.reduceEqDiff, Nat.reduceAdd, Nat.reduceLT, ↓us_sl1Cur_touch, r_sl1Cur_touch]
    exact ⟨by omega, inR_i64 (by omega), j - 1, by omega, t ++ x, ⟨rfl, by rw [show (j : Int) - 1 = ((j - 1 : Nat) : Int) by omega]⟩, by rw [List.length_append]; omega, hc4.mono (by omega), grown_trans (grown_trans hg2 (grown_ext _ (by first | exact hx3 | exact ud hx3))) hg4⟩
  · obtain rfl : j = 0 := by omega
    have hjI : ¬ (0 : Int) < ((0 : Nat) : Int) := by omega
    simp only [↓vsd, vsn, gW, qd, qv, ev, pick, argE, zipE, ne_eq, eq_self, forall_const, implies_true, if_true, if_false, reduceIte, reduceCtorEq, Nat.reduceEqDiff, Nat.reduceAdd, Nat.reduceLT, ↓us_sl1Cur_touch, r_sl1Cur_touch, hjI]
    refine m_callw (.inl rfl) (sl1Cur_one_ok W b _ 3 (by omega) _ (by omega) hc2) ?_
    rintro _ w3 ⟨hc3, hg3, x, rfl⟩
    cases x
    · simp only [↓vsd, vsn, gW, qd, qv, ev, pick, argE, zipE, ne_eq, eq_self, forall_const, implies_true, if_true, if_false, reduceIte, reduceCtorEq, Nat.reduceEqDiff, Nat.reduceAdd, Nat.reduceLT, ↓us_sl1Cur_touch, r_sl1Cur_touch]
      exact ⟨hc3.mono (by omega), grown_trans hg2 hg3, t, rfl, by omega⟩
    · simp only [↓vsd, vsn, gW, qd, qv, ev, pick, argE, zipE, ne_eq, eq_self, forall_const, implies_true, if_true, if_false, reduceIte, reduceCtorEq, Nat.reduceEqDiff, Nat.reduceAdd, Nat.reduceLT, ↓us_sl1Cur_touch, r_sl1Cur_touch]
      exact ⟨by omega, hc3.mono (by omega), grown_trans hg2 hg3, t ++ t, rfl, by rw [List.length_append]; omega⟩
theorem sl1Cur_anyTouch_ok (W : World) (b n : Nat) (w : World) (hn : n ≤ 600000000) (hc : Cur W b n w) : CurFn 73 [cV b] W b n 400 w (fun r _ => ∃ x, r = S x ∧ x.length ≤ 61) := by
  (refine callsV_of mix Tryz.func73 c_sl1Cur_anyTouch ?_; simp only [↓vsd, vsn, gW, qd, qv, ev, pick, argE, zipE, ne_eq, eq_self, forall_const, implies_true, if_true, if_false, reduceIte, reduceCtorEq, Nat.reduceEqDiff, Nat.reduceAdd, Nat.reduceLT, ↓us_sl1Cur_anyTouch, r_sl1Cur_anyTouch])
  refine m_callw (.inl rfl) (sl1Cur_pick_ok W b n 16 (by omega) _ (by omega) hc) ?_
  rintro _ w1 ⟨hc1, hg1, q, rfl, hq⟩
  have hlt := hc1.lt
  simp only [↓vsd, vsn, gW, qd, qv, ev, pick, argE, zipE, ne_eq, eq_self, forall_const, implies_true, if_true, if_false, reduceIte, reduceCtorEq, Nat.reduceEqDiff, Nat.reduceAdd, Nat.reduceLT, ↓us_sl1Cur_anyTouch, r_sl1Cur_anyTouch]
  refine ⟨fun h0 => m_bsl (by simp [S]; repeat' constructor) ?_, fun h0 => ⟨fun h1 => m_bsl (by simp; repeat' constructor) ?_, fun h1 => m_callw (.inl rfl) (sl1Cur_touch_ok W b _ 9 (by omega) _ (by omega) hc1) ?_⟩⟩
  · rintro b2 w2 hb2 hblk2 hx2 hs2
    simp only [↓vsd, vsn, gW, qd, qv, ev, pick, argE, zipE, ne_eq, eq_self, forall_const, implies_true, if_true, if_false, reduceIte, reduceCtorEq, Nat.reduceEqDiff, Nat.reduceAdd, Nat.reduceLT, ↓us_sl1Cur_anyTouch, r_sl1Cur_anyTouch]
    refine m_callw (by first | exact .inl rfl | exact .inr rfl) (sl1Cur_of_ok W b _ _ [[], [120], [112, 66], [112, 32, 98]] w2 (by omega) (by decide) (hc1.ext hx2) (Sq.litC _ _ fS_len hblk2 rfl rfl (by omega))) ?_
    rintro _ w3 ⟨hc3, hg3, x, rfl, hx⟩
    simp only [↓vsd, vsn, gW, qd, qv, ev, pick, argE, zipE, ne_eq, eq_self, forall_const, implies_true, if_true, if_false, reduceIte, reduceCtorEq, Nat.reduceEqDiff, Nat.reduceAdd, Nat.reduceLT, ↓us_sl1Cur_anyTouch, r_sl1Cur_anyTouch]
    exact ⟨hc3.mono (by omega), grown_trans (grown_trans hg1 (grown_ext _ hx2)) hg3, x, rfl, by simp only [List.mem_cons, List.not_mem_nil, or_false] at hx; rcases hx with rfl | rfl | rfl | rfl <;> decide⟩
  · rintro b2 w2 hb2 hblk2 hx2 hs2
    simp only [↓vsd, vsn, gW, qd, qv, ev, pick, argE, zipE, ne_eq, eq_self, forall_const, implies_true, if_true, if_false, reduceIte, reduceCtorEq, Nat.reduceEqDiff, Nat.reduceAdd, Nat.reduceLT, ↓us_sl1Cur_anyTouch, r_sl1Cur_anyTouch]
    refine m_callw (by first | exact .inl rfl | exact .inr rfl) (sl1Cur_among_ok W b _ _ [59, 60, 61] w2 (by omega) (by decide) (hc1.ext hx2) (Sq.litC _ _ fI_len hblk2 rfl rfl (by omega))) ?_
    rintro _ w3 ⟨hc3, hg3, y, rfl, hy⟩
    have hy61 : 59 ≤ y ∧ y ≤ 61 := by simp only [List.mem_cons, List.not_mem_nil, or_false] at hy; omega
    obtain ⟨m, rfl⟩ : ∃ m : Nat, y = m := ⟨y.toNat, by omega⟩
    simp only [↓vsd, vsn, gW, qd, qv, ev, pick, argE, zipE, ne_eq, eq_self, forall_const, implies_true, if_true, if_false, reduceIte, reduceCtorEq, Nat.reduceEqDiff, Nat.reduceAdd, Nat.reduceLT, ↓us_sl1Cur_anyTouch, r_sl1Cur_anyTouch]
    refine m_loop (fun j vs w' => ∃ (t : List UInt8), vs = [S t, .int .i64 j] ∧ t.length + j ≤ 61 ∧ Cur W b (n + 10 + 2 * (61 - j)) w' ∧ w.grownBy w' (some b)) m ⟨[], rfl, by simp only [List.length_nil]; omega, hc3.mono (by omega), grown_trans (grown_trans hg1 (grown_ext _ hx2)) hg3⟩ ?_
    rintro j vs w4 ⟨t, rfl, htl, hc4, hg4⟩
    by_cases hj : 0 < j
    · have hjI : (0 : Int) < j := by omega
      simp only [↓vsd, vsn, gW, qd, qv, ev, pick, argE, zipE, ne_eq, eq_self, forall_const, implies_true, if_true, if_false, reduceIte, reduceCtorEq, Nat.reduceEqDiff, Nat.reduceAdd, Nat.reduceLT, ↓us_sl1Cur_anyTouch, r_sl1Cur_anyTouch, hjI]
      refine m_bsl (by simp [S]; repeat' constructor) ?_
      rintro b5 w5 hb5 hblk5 hx5 hs5
      have hlt4 := hc4.lt
      simp only [↓vsd, vsn, gW, qd, qv, ev, pick, argE, zipE, ne_eq, eq_self, forall_const, implies_true, if_true, if_false, reduceIte, reduceCtorEq, Nat.reduceEqDiff, Nat.reduceAdd, Nat.reduceLT, ↓us_sl1Cur_anyTouch, r_sl1Cur_anyTouch]
      refine m_callw (by first | exact .inl rfl | exact .inr rfl) (sl1Cur_of_ok W b _ _ [[112], [98], [115]] w5 (by omega) (by decide) (hc4.ext (by first | exact hx5 | exact ud hx5)) (Sq.litC _ _ fS_len hblk5 rfl rfl (by omega))) ?_
      rintro _ w6 ⟨hc6, hg6, x, rfl, hx⟩
      have hx1 : x.length = 1 := by simp only [List.mem_cons, List.not_mem_nil, or_false] at hx; rcases hx with rfl | rfl | rfl <;> rfl
      simp only [↓vsd, vsn, gW, qd, qv, ev, pick, argE, zipE, ne_eq, eq_self, forall_const, implies_true, if_true, if_false, reduceIte, reduceCtorEq, Nat.reduceEqDiff, Nat.reduceAdd, Nat.reduceLT, ↓us_sl1Cur_anyTouch, r_sl1Cur_anyTouch]
      exact ⟨by omega, inR_i64 (by omega), j - 1, by omega, t ++ x, ⟨rfl, by rw [show (j : Int) - 1 = ((j - 1 : Nat) : Int) by omega]⟩, by rw [List.length_append]; omega, hc6.mono (by omega), grown_trans (grown_trans hg4 (grown_ext _ (by first | exact hx5 | exact ud hx5))) hg6⟩
    · obtain rfl : j = 0 := by omega
      have hjI : ¬ (0 : Int) < ((0 : Nat) : Int) := by omega
      simp only [↓vsd, vsn, gW, qd, qv, ev, pick, argE, zipE, ne_eq, eq_self, forall_const, implies_true, if_true, if_false, reduceIte, reduceCtorEq, Nat.reduceEqDiff, Nat.reduceAdd, Nat.reduceLT, ↓us_sl1Cur_anyTouch, r_sl1Cur_anyTouch, hjI]
      exact ⟨hc4.mono (by omega), hg4, t, rfl, by omega⟩
  · rintro _ w2 ⟨hc2, hg2, x, rfl, hx⟩
    simp only [↓vsd, vsn, gW, qd, qv, ev, pick, argE, zipE, ne_eq, eq_self, forall_const, implies_true, if_true, if_false, reduceIte, reduceCtorEq, Nat.reduceEqDiff, Nat.reduceAdd, Nat.reduceLT, ↓us_sl1Cur_anyTouch, r_sl1Cur_anyTouch]
    exact ⟨hc2.mono (by omega), grown_trans hg1 hg2, x, rfl, by omega⟩
end Go.Proofs.YthopbkemkfjebaaGreat
