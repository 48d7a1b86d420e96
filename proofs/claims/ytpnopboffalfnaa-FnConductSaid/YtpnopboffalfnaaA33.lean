/-
  The end of a touch, of both sides.
  Conditions: none.
-/
import Derived.Test.YtpnopboffalfnaaA32
set_option linter.unusedSimpArgs false
set_option linter.unusedVariables false
set_option linter.defProp false
namespace Go.Proofs.Ytpnopboffalfnaa
open Go Go.RowKit
section
variable (P : Program) (k : KT) (e : Env) (w : World)
abbrev b75_1 : X := (.cond (.t 12) (.seq (.reg [6, 7] (.c (.q 6 [] (.mv (.c (.slice none 0 0)))) (.c (.q 7 [] (.mv (.c (.bool false)))) .nil))) .ret) .skip)
def t75_1 := b75_1
theorem u75_1 : vcK P t75_1 k e w = vcK P b75_1 k e w := rfl
abbrev b75_2 : X := (.seq (.reg [6, 7] (.c (.q 13 [] (.lda 3 (.t 3))) (.c (.q 14 [] (.lda 2 (.t 4))) (.c (.q 15 [] (.mv (.t 2))) (.c (.e (some 16) [] (.call false 198 [(.t 13), (.t 14), (.t 15)])) (.c (.q 6 [] (.mv (.t 16))) (.c (.q 7 [] (.mv (.c (.bool true)))) .nil))))))) .ret)
def t75_2 := b75_2
theorem u75_2 : vcK P t75_2 k e w = vcK P b75_2 k e w := rfl
abbrev b75_3 : X := (.seq (.seq (.reg [2, 3, 4, 12] (.c (.q 8 [] (.lda 3 (.t 3))) (.c (.q 9 [] (.lda 2 (.t 4))) (.c (.q 10 [] (.mv (.t 2))) (.c (.e (some 11) [] (.call false 161 [(.t 8), (.t 9), (.t 10)])) (.c (.q 12 [] (.not (.t 11))) .nil)))))) t75_1) t75_2)
def t75_3 := b75_3
theorem u75_3 : vcK P t75_3 k e w = vcK P b75_3 k e w := rfl
abbrev b75_0 : X := (.seq (.reg [2, 3, 4] (.c (.e (some 3) [] (.box 41 (.t 0))) (.c (.e (some 4) [] (.box 32 (.t 1))) (.c (.q 6 [] (.mv (.c (.slice none 0 0)))) (.c (.q 7 [] (.mv (.c (.bool false)))) .nil))))) t75_3)
def x_iTouchHeads := b75_0
theorem u75_0 : vcK P x_iTouchHeads k e w = vcK P b75_0 k e w := rfl
def r_iTouchHeads : List XO := [(.mv (.t 6)), (.mv (.t 7))]
theorem c_iTouchHeads : convF Try.prog [169, 170, 207, 208, 210, 227, 232, 233, 255, 259, 268, 269, 270, 280, 281, 296, 299, 306, 307, 309] Try.f75 [([2, 3, 4], []), ([2, 3, 4, 12], []), ([6, 7], []), ([6, 7], [])] = some (x_iTouchHeads, r_iTouchHeads) := by kernel_rfl
def us_iTouchHeads := aI @u75_0 (aI @u75_1 (aI @u75_2 @u75_3))
abbrev b76_1 : X := (.cond (.t 12) (.seq (.reg [6, 7] (.c (.q 6 [] (.mv (.c (.slice none 0 0)))) (.c (.q 7 [] (.mv (.c (.bool false)))) .nil))) .ret) .skip)
def t76_1 := b76_1
theorem u76_1 : vcK P t76_1 k e w = vcK P b76_1 k e w := rfl
abbrev b76_2 : X := (.seq (.reg [6, 7] (.c (.q 13 [] (.lda 3 (.t 3))) (.c (.q 14 [] (.lda 2 (.t 4))) (.c (.q 15 [] (.mv (.t 2))) (.c (.e (some 16) [] (.call false 193 [(.t 13), (.t 14), (.t 15)])) (.c (.q 6 [] (.mv (.t 16))) (.c (.q 7 [] (.mv (.c (.bool true)))) .nil))))))) .ret)
def t76_2 := b76_2
theorem u76_2 : vcK P t76_2 k e w = vcK P b76_2 k e w := rfl
abbrev b76_3 : X := (.seq (.seq (.reg [2, 3, 4, 12] (.c (.q 8 [] (.lda 3 (.t 3))) (.c (.q 9 [] (.lda 2 (.t 4))) (.c (.q 10 [] (.mv (.t 2))) (.c (.e (some 11) [] (.call false 163 [(.t 8), (.t 9), (.t 10)])) (.c (.q 12 [] (.not (.t 11))) .nil)))))) t76_1) t76_2)
def t76_3 := b76_3
theorem u76_3 : vcK P t76_3 k e w = vcK P b76_3 k e w := rfl
abbrev b76_0 : X := (.seq (.reg [2, 3, 4] (.c (.e (some 3) [] (.box 41 (.t 0))) (.c (.e (some 4) [] (.box 32 (.t 1))) (.c (.q 6 [] (.mv (.c (.slice none 0 0)))) (.c (.q 7 [] (.mv (.c (.bool false)))) .nil))))) t76_3)
def x_sTouchHeads := b76_0
theorem u76_0 : vcK P x_sTouchHeads k e w = vcK P b76_0 k e w := rfl
def r_sTouchHeads : List XO := [(.mv (.t 6)), (.mv (.t 7))]
theorem c_sTouchHeads : convF Try.prog [169, 170, 207, 208, 210, 227, 232, 233, 255, 259, 268, 269, 270, 280, 281, 296, 299, 306, 307, 309] Try.f76 [([2, 3, 4], []), ([2, 3, 4, 12], []), ([6, 7], []), ([6, 7], [])] = some (x_sTouchHeads, r_sTouchHeads) := by kernel_rfl
def us_sTouchHeads := aI @u76_0 (aI @u76_1 (aI @u76_2 @u76_3))
abbrev b216_1 : X := (.seq (.reg [6] (.c (.q 7 [] (.lda 3 (.t 3))) (.c (.q 8 [] (.lda 2 (.t 4))) (.c (.q 9 [] (.mv (.t 2))) (.c (.e (some 10) [] (.call false 198 [(.t 7), (.t 8), (.t 9)])) (.c (.q 11 [] (.mv (.t 2))) (.c (.q 12 [] (.len (.t 11))) (.c (.q 13 [] (.ia 1 (.t 10) (.t 12))) (.c (.q 14 [] (.ld (.t 13))) (.c (.q 6 [] (.mv (.t 14))) .nil)))))))))) .ret)
def t216_1 := b216_1
theorem u216_1 : vcK P t216_1 k e w = vcK P b216_1 k e w := rfl
abbrev b216_0 : X := (.seq (.reg [2, 3, 4] (.c (.e (some 3) [] (.box 41 (.t 0))) (.c (.e (some 4) [] (.box 32 (.t 1))) (.c (.q 6 [] (.mv (.s []))) .nil)))) t216_1)
def x_itouchEnd := b216_0
theorem u216_0 : vcK P x_itouchEnd k e w = vcK P b216_0 k e w := rfl
def r_itouchEnd : List XO := [(.mv (.t 6))]
theorem c_itouchEnd : convF Try.prog [169, 170, 207, 208, 210, 227, 232, 233, 255, 259, 268, 269, 270, 280, 281, 296, 299, 306, 307, 309] Try.f216 [([2, 3, 4], []), ([6], [])] = some (x_itouchEnd, r_itouchEnd) := by kernel_rfl
def us_itouchEnd := aI @u216_0 @u216_1
abbrev b79_1 : X := (.cond (.t 12) (.seq (.reg [6, 7] (.c (.q 6 [] (.mv (.s []))) (.c (.q 7 [] (.mv (.c (.bool false)))) .nil))) .ret) .skip)
def t79_1 := b79_1
theorem u79_1 : vcK P t79_1 k e w = vcK P b79_1 k e w := rfl
abbrev b79_2 : X := (.seq (.reg [6, 7] (.c (.q 13 [] (.lda 3 (.t 3))) (.c (.q 14 [] (.lda 2 (.t 4))) (.c (.q 15 [] (.mv (.t 2))) (.c (.e (some 16) [] (.call false 216 [(.t 13), (.t 14), (.t 15)])) (.c (.q 6 [] (.mv (.t 16))) (.c (.q 7 [] (.mv (.c (.bool true)))) .nil))))))) .ret)
def t79_2 := b79_2
theorem u79_2 : vcK P t79_2 k e w = vcK P b79_2 k e w := rfl
abbrev b79_3 : X := (.seq (.seq (.reg [2, 3, 4, 12] (.c (.q 8 [] (.lda 3 (.t 3))) (.c (.q 9 [] (.lda 2 (.t 4))) (.c (.q 10 [] (.mv (.t 2))) (.c (.e (some 11) [] (.call false 161 [(.t 8), (.t 9), (.t 10)])) (.c (.q 12 [] (.not (.t 11))) .nil)))))) t79_1) t79_2)
def t79_3 := b79_3
theorem u79_3 : vcK P t79_3 k e w = vcK P b79_3 k e w := rfl
abbrev b79_0 : X := (.seq (.reg [2, 3, 4] (.c (.e (some 3) [] (.box 41 (.t 0))) (.c (.e (some 4) [] (.box 32 (.t 1))) (.c (.q 6 [] (.mv (.s []))) (.c (.q 7 [] (.mv (.c (.bool false)))) .nil))))) t79_3)
def x_iTouchEnd := b79_0
theorem u79_0 : vcK P x_iTouchEnd k e w = vcK P b79_0 k e w := rfl
def r_iTouchEnd : List XO := [(.mv (.t 6)), (.mv (.t 7))]
theorem c_iTouchEnd : convF Try.prog [169, 170, 207, 208, 210, 227, 232, 233, 255, 259, 268, 269, 270, 280, 281, 296, 299, 306, 307, 309] Try.f79 [([2, 3, 4], []), ([2, 3, 4, 12], []), ([6, 7], []), ([6, 7], [])] = some (x_iTouchEnd, r_iTouchEnd) := by kernel_rfl
def us_iTouchEnd := aI @u79_0 (aI @u79_1 (aI @u79_2 @u79_3))
abbrev b164_1 : X := (.seq (.reg [6] (.c (.q 7 [] (.lda 3 (.t 3))) (.c (.q 8 [] (.lda 2 (.t 4))) (.c (.q 9 [] (.mv (.t 2))) (.c (.e (some 10) [] (.call false 193 [(.t 7), (.t 8), (.t 9)])) (.c (.q 11 [] (.mv (.t 2))) (.c (.q 12 [] (.len (.t 11))) (.c (.q 13 [] (.ia 1 (.t 10) (.t 12))) (.c (.q 14 [] (.ld (.t 13))) (.c (.q 6 [] (.mv (.t 14))) .nil)))))))))) .ret)
def t164_1 := b164_1
theorem u164_1 : vcK P t164_1 k e w = vcK P b164_1 k e w := rfl
abbrev b164_0 : X := (.seq (.reg [2, 3, 4] (.c (.e (some 3) [] (.box 41 (.t 0))) (.c (.e (some 4) [] (.box 32 (.t 1))) (.c (.q 6 [] (.mv (.s []))) .nil)))) t164_1)
def x_sl9End := b164_0
theorem u164_0 : vcK P x_sl9End k e w = vcK P b164_0 k e w := rfl
def r_sl9End : List XO := [(.mv (.t 6))]
theorem c_sl9End : convF Try.prog [169, 170, 207, 208, 210, 227, 232, 233, 255, 259, 268, 269, 270, 280, 281, 296, 299, 306, 307, 309] Try.f164 [([2, 3, 4], []), ([6], [])] = some (x_sl9End, r_sl9End) := by kernel_rfl
def us_sl9End := aI @u164_0 @u164_1
abbrev b80_1 : X := (.cond (.t 12) (.seq (.reg [6, 7] (.c (.q 6 [] (.mv (.s []))) (.c (.q 7 [] (.mv (.c (.bool false)))) .nil))) .ret) .skip)
def t80_1 := b80_1
theorem u80_1 : vcK P t80_1 k e w = vcK P b80_1 k e w := rfl
abbrev b80_2 : X := (.seq (.reg [6, 7] (.c (.q 13 [] (.lda 3 (.t 3))) (.c (.q 14 [] (.lda 2 (.t 4))) (.c (.q 15 [] (.mv (.t 2))) (.c (.e (some 16) [] (.call false 164 [(.t 13), (.t 14), (.t 15)])) (.c (.q 6 [] (.mv (.t 16))) (.c (.q 7 [] (.mv (.c (.bool true)))) .nil))))))) .ret)
def t80_2 := b80_2
theorem u80_2 : vcK P t80_2 k e w = vcK P b80_2 k e w := rfl
abbrev b80_3 : X := (.seq (.seq (.reg [2, 3, 4, 12] (.c (.q 8 [] (.lda 3 (.t 3))) (.c (.q 9 [] (.lda 2 (.t 4))) (.c (.q 10 [] (.mv (.t 2))) (.c (.e (some 11) [] (.call false 163 [(.t 8), (.t 9), (.t 10)])) (.c (.q 12 [] (.not (.t 11))) .nil)))))) t80_1) t80_2)
def t80_3 := b80_3
theorem u80_3 : vcK P t80_3 k e w = vcK P b80_3 k e w := rfl
abbrev b80_0 : X := (.seq (.reg [2, 3, 4] (.c (.e (some 3) [] (.box 41 (.t 0))) (.c (.e (some 4) [] (.box 32 (.t 1))) (.c (.q 6 [] (.mv (.s []))) (.c (.q 7 [] (.mv (.c (.bool false)))) .nil))))) t80_3)
def x_sTouchEnd := b80_0
theorem u80_0 : vcK P x_sTouchEnd k e w = vcK P b80_0 k e w := rfl
def r_sTouchEnd : List XO := [(.mv (.t 6)), (.mv (.t 7))]
theorem c_sTouchEnd : convF Try.prog [169, 170, 207, 208, 210, 227, 232, 233, 255, 259, 268, 269, 270, 280, 281, 296, 299, 306, 307, 309] Try.f80 [([2, 3, 4], []), ([2, 3, 4, 12], []), ([6, 7], []), ([6, 7], [])] = some (x_sTouchEnd, r_sTouchEnd) := by kernel_rfl
def us_sTouchEnd := aI @u80_0 (aI @u80_1 (aI @u80_2 @u80_3))
abbrev b162_1 : X := (.seq (.drw [6] (.c (.q 7 [] (.lda 3 (.t 3))) (.c (.q 8 [] (.lda 2 (.t 4))) (.c (.q 9 [] (.mv (.t 2))) (.c (.q 11 [] (.fa 1 (.t 3))) (.c (.q 12 [] (.ld (.t 11))) (.c (.e (some 10) [] (.call false 216 [(.t 7), (.t 8), (.t 9)])) (.c (.e (some 13) [] (.call false 178 [(.t 12)])) (.c (.q 14 [] (.bin .eql (.t 10) (.t 13))) (.c (.q 6 [] (.mv (.t 14))) .nil)))))))))) .ret)
def t162_1 := b162_1
theorem u162_1 : vcK P t162_1 k e w = vcK P b162_1 k e w := rfl
abbrev b162_0 : X := (.seq (.reg [2, 3, 4] (.c (.e (some 3) [] (.box 41 (.t 0))) (.c (.e (some 4) [] (.box 32 (.t 1))) (.c (.q 6 [] (.mv (.c (.bool false)))) .nil)))) t162_1)
def x_icomesRound := b162_0
theorem u162_0 : vcK P x_icomesRound k e w = vcK P b162_0 k e w := rfl
def r_icomesRound : List XO := [(.mv (.t 6))]
theorem c_icomesRound : convF Try.prog [169, 170, 207, 208, 210, 227, 232, 233, 255, 259, 268, 269, 270, 280, 281, 296, 299, 306, 307, 309] Try.f162 [([2, 3, 4], []), ([6], [])] = some (x_icomesRound, r_icomesRound) := by kernel_rfl
def us_icomesRound := aI @u162_0 @u162_1
abbrev b27_1 : X := (.cond (.t 12) (.seq (.reg [6, 7] (.c (.q 6 [] (.mv (.c (.bool false)))) (.c (.q 7 [] (.mv (.c (.bool false)))) .nil))) .ret) .skip)
def t27_1 := b27_1
theorem u27_1 : vcK P t27_1 k e w = vcK P b27_1 k e w := rfl
abbrev b27_2 : X := (.seq (.reg [6, 7] (.c (.q 13 [] (.lda 3 (.t 3))) (.c (.q 14 [] (.lda 2 (.t 4))) (.c (.q 15 [] (.mv (.t 2))) (.c (.e (some 16) [] (.call false 162 [(.t 13), (.t 14), (.t 15)])) (.c (.q 6 [] (.mv (.t 16))) (.c (.q 7 [] (.mv (.c (.bool true)))) .nil))))))) .ret)
def t27_2 := b27_2
theorem u27_2 : vcK P t27_2 k e w = vcK P b27_2 k e w := rfl
abbrev b27_3 : X := (.seq (.seq (.reg [2, 3, 4, 12] (.c (.q 8 [] (.lda 3 (.t 3))) (.c (.q 9 [] (.lda 2 (.t 4))) (.c (.q 10 [] (.mv (.t 2))) (.c (.e (some 11) [] (.call false 161 [(.t 8), (.t 9), (.t 10)])) (.c (.q 12 [] (.not (.t 11))) .nil)))))) t27_1) t27_2)
def t27_3 := b27_3
theorem u27_3 : vcK P t27_3 k e w = vcK P b27_3 k e w := rfl
abbrev b27_0 : X := (.seq (.reg [2, 3, 4] (.c (.e (some 3) [] (.box 41 (.t 0))) (.c (.e (some 4) [] (.box 32 (.t 1))) (.c (.q 6 [] (.mv (.c (.bool false)))) (.c (.q 7 [] (.mv (.c (.bool false)))) .nil))))) t27_3)
def x_iIsRound := b27_0
theorem u27_0 : vcK P x_iIsRound k e w = vcK P b27_0 k e w := rfl
def r_iIsRound : List XO := [(.mv (.t 6)), (.mv (.t 7))]
theorem c_iIsRound : convF Try.prog [169, 170, 207, 208, 210, 227, 232, 233, 255, 259, 268, 269, 270, 280, 281, 296, 299, 306, 307, 309] Try.f27 [([2, 3, 4], []), ([2, 3, 4, 12], []), ([6, 7], []), ([6, 7], [])] = some (x_iIsRound, r_iIsRound) := by kernel_rfl
def us_iIsRound := aI @u27_0 (aI @u27_1 (aI @u27_2 @u27_3))
abbrev b28_1 : X := (.cond (.t 12) (.seq (.reg [6, 7] (.c (.q 6 [] (.mv (.c (.bool false)))) (.c (.q 7 [] (.mv (.c (.bool false)))) .nil))) .ret) .skip)
def t28_1 := b28_1
theorem u28_1 : vcK P t28_1 k e w = vcK P b28_1 k e w := rfl
abbrev b28_2 : X := (.seq (.drw [6, 7] (.c (.q 13 [] (.lda 3 (.t 3))) (.c (.q 14 [] (.lda 2 (.t 4))) (.c (.q 15 [] (.mv (.t 2))) (.c (.q 17 [] (.fa 1 (.t 3))) (.c (.q 18 [] (.ld (.t 17))) (.c (.e (some 16) [] (.call false 164 [(.t 13), (.t 14), (.t 15)])) (.c (.e (some 19) [] (.call false 165 [(.t 18)])) (.c (.q 20 [] (.bin .eql (.t 16) (.t 19))) (.c (.q 6 [] (.mv (.t 20))) (.c (.q 7 [] (.mv (.c (.bool true)))) .nil))))))))))) .ret)
def t28_2 := b28_2
theorem u28_2 : vcK P t28_2 k e w = vcK P b28_2 k e w := rfl
abbrev b28_3 : X := (.seq (.seq (.reg [2, 3, 4, 12] (.c (.q 8 [] (.lda 3 (.t 3))) (.c (.q 9 [] (.lda 2 (.t 4))) (.c (.q 10 [] (.mv (.t 2))) (.c (.e (some 11) [] (.call false 163 [(.t 8), (.t 9), (.t 10)])) (.c (.q 12 [] (.not (.t 11))) .nil)))))) t28_1) t28_2)
def t28_3 := b28_3
theorem u28_3 : vcK P t28_3 k e w = vcK P b28_3 k e w := rfl
abbrev b28_0 : X := (.seq (.reg [2, 3, 4] (.c (.e (some 3) [] (.box 41 (.t 0))) (.c (.e (some 4) [] (.box 32 (.t 1))) (.c (.q 6 [] (.mv (.c (.bool false)))) (.c (.q 7 [] (.mv (.c (.bool false)))) .nil))))) t28_3)
def x_sIsRound := b28_0
theorem u28_0 : vcK P x_sIsRound k e w = vcK P b28_0 k e w := rfl
def r_sIsRound : List XO := [(.mv (.t 6)), (.mv (.t 7))]
theorem c_sIsRound : convF Try.prog [169, 170, 207, 208, 210, 227, 232, 233, 255, 259, 268, 269, 270, 280, 281, 296, 299, 306, 307, 309] Try.f28 [([2, 3, 4], []), ([2, 3, 4, 12], []), ([6, 7], []), ([6, 7], [])] = some (x_sIsRound, r_sIsRound) := by kernel_rfl
def us_sIsRound := aI @u28_0 (aI @u28_1 (aI @u28_2 @u28_3))
abbrev b83_1 : X := (.seq (.reg [2] (.c (.q 3 [] (.mv (.t 0))) (.c (.e (some 4) [] (.call false 218 [(.t 3)])) (.c (.q 2 [] (.mv (.t 4))) .nil)))) .ret)
def t83_1 := b83_1
theorem u83_1 : vcK P t83_1 k e w = vcK P b83_1 k e w := rfl
abbrev b83_0 : X := (.seq (.reg [0] (.c (.q 2 [] (.mv (.c (.bool false)))) .nil)) t83_1)
def x_sGoodTouch := b83_0
theorem u83_0 : vcK P x_sGoodTouch k e w = vcK P b83_0 k e w := rfl
def r_sGoodTouch : List XO := [(.mv (.t 2))]
theorem c_sGoodTouch : convF Try.prog [169, 170, 207, 208, 210, 227, 232, 233, 255, 259, 268, 269, 270, 280, 281, 296, 299, 306, 307, 309] Try.f83 [([0], []), ([2], [])] = some (x_sGoodTouch, r_sGoodTouch) := by kernel_rfl
def us_sGoodTouch := aI @u83_0 @u83_1
end

/-- Is a touch asked of a method and its calls? -/
def IsMT (nm : List UInt8) (st : Int) (cs : List (List UInt8)) (b s t : List UInt8) : Prop := IsMC nm st cs b s ∧ IsTch t
instance (nm : List UInt8) (st : Int) (cs : List (List UInt8)) (b s t : List UInt8) : Decidable (IsMT nm st cs b s t) := by unfold IsMT; infer_instance
def headsV (nm : List UInt8) (st : Int) (cs : List (List UInt8)) (b s t : List UInt8) : List (List UInt8) := if IsMT nm st cs b s t then headsP st.toNat cs b s t (t.length + 1) else []
def endV (nm : List UInt8) (st : Int) (cs : List (List UInt8)) (b s t : List UInt8) : Value := if IsMT nm st cs b s t then .tuple ⟨[S (headP st.toNat cs b s t t.length), .bool true]⟩ else .tuple ⟨[S [], .bool false]⟩
def rndV (nm : List UInt8) (st : Int) (cs : List (List UInt8)) (b s t : List UInt8) : Value := if IsMT nm st cs b s t then .tuple ⟨[.bool (decide (headP st.toNat cs b s t t.length = roundsL st.toNat)), .bool true]⟩ else .tuple ⟨[.bool false, .bool false]⟩
section
variable (nm : List UInt8) (st : Int) (v : Value) (cs : List (List UInt8)) (b s t : List UInt8) (hnm : nm.length ≤ 1048576) (hs : ∀ c ∈ cs, c.length ≤ 1048576) (hl : cs.length ≤ 1000000000) (hb : b.length ≤ 1048576 ∧ s.length ≤ 1048576) (ht : t.length ≤ 1000000000)
include hnm hs hl hb ht
theorem iTouchHeads_ok (w : World) (h : Sq fS 1 w v cs) : Fn 75 [mV nm st v, kV b s, S t] w (fun r w' => ∃ x, r = .tuple ⟨[x, .bool (decide (IsMT nm st cs b s t))]⟩ ∧ Own fS 1 9 w.heap.size w' x (headsV nm st cs b s t)) := by
  (refine callsV_of mix Try.func75 c_iTouchHeads ?_; simp only [↓vsd, vsn, gW, qd, qv, ev, pick, argE, zipE, ne_eq, eq_self, forall_const, implies_true, if_true, if_false, reduceIte, reduceCtorEq, Nat.reduceEqDiff, Nat.reduceAdd, Nat.reduceLT, ↓us_iTouchHeads, r_iTouchHeads])
  refine m_al ?_
  rintro b1 w1 hb1 hblk1 hx1 hs1
  have h1 : Blk w1 b1 (fM nm st v) 41 := hblk1
  simp only [↓vsd, vsn, gW, qd, qv, ev, pick, argE, zipE, ne_eq, eq_self, forall_const, implies_true, if_true, if_false, reduceIte, reduceCtorEq, Nat.reduceEqDiff, Nat.reduceAdd, Nat.reduceLT, ↓us_iTouchHeads, r_iTouchHeads, h1.facts, fMg]
  refine m_al ?_
  rintro b2 w2 hb2 hblk2 hx2 hs2
  have h2 : Blk w2 b2 (fQ b s) 32 := hblk2
  have h12 := h1.ext hx2
  have hx12 := hx1.trans hx2
  simp only [↓vsd, vsn, gW, qd, qv, ev, pick, argE, zipE, ne_eq, eq_self, forall_const, implies_true, if_true, if_false, reduceIte, reduceCtorEq, Nat.reduceEqDiff, Nat.reduceAdd, Nat.reduceLT, ↓us_iTouchHeads, r_iTouchHeads, h12.facts, h2.facts, fMg, fQg]
  refine m_call (igoodFor_ok nm st v cs b s t hnm hs hl hb ht _ (h.ext hx12)) ?_
  rintro _ w3 hx3 rfl
  have hx13 := hx12.trans hx3
  have h13 := h12.ext hx3
  have h23 := h2.ext hx3
  by_cases hM : IsMC nm st cs b s ∧ IsTch t
  · obtain ⟨n, rfl⟩ : ∃ n : Nat, st = n := ⟨st.toNat, by have := hM.1.1.2.1; omega⟩
    simp only [↓vsd, vsn, gW, qd, qv, ev, pick, argE, zipE, ne_eq, eq_self, forall_const, implies_true, if_true, if_false, reduceIte, reduceCtorEq, Nat.reduceEqDiff, Nat.reduceAdd, Nat.reduceLT, ↓us_iTouchHeads, r_iTouchHeads, hM, h13.facts, h23.facts, fMg, fQg]
    refine m_call (iheads_ok nm n v cs b s t hM.1 ⟨hM.2.1.2, hM.2.2⟩ _ (h.ext hx13)) ?_
    rintro x w4 hx4 ho4
    simp only [↓vsd, vsn, gW, qd, qv, ev, pick, argE, zipE, ne_eq, eq_self, forall_const, implies_true, if_true, if_false, reduceIte, reduceCtorEq, Nat.reduceEqDiff, Nat.reduceAdd, Nat.reduceLT, ↓us_iTouchHeads, r_iTouchHeads]
    exact ⟨hx13.trans hx4, x, by rw [decide_eq_true (show IsMT nm n cs b s t from hM)], by rw [headsV, if_pos (show IsMT nm n cs b s t from hM)]; exact ho4.mono hx13.size⟩
  · simp only [↓vsd, vsn, gW, qd, qv, ev, pick, argE, zipE, ne_eq, eq_self, forall_const, implies_true, if_true, if_false, reduceIte, reduceCtorEq, Nat.reduceEqDiff, Nat.reduceAdd, Nat.reduceLT, ↓us_iTouchHeads, r_iTouchHeads, hM]
    exact ⟨hx13, _, by rw [decide_eq_false (show ¬ IsMT nm st cs b s t from hM)], by rw [headsV, if_neg (show ¬ IsMT nm st cs b s t from hM)]; exact Own.nil fS_len⟩
theorem sTouchHeads_ok (w : World) (h : Sq fS 1 w v cs) : Fn 76 [mV nm st v, kV b s, S t] w (fun r w' => ∃ x, r = .tuple ⟨[x, .bool (decide (IsMT nm st cs b s t))]⟩ ∧ Own fS 1 9 w.heap.size w' x (headsV nm st cs b s t)) := by
  (refine callsV_of mix Try.func76 c_sTouchHeads ?_; simp only [↓vsd, vsn, gW, qd, qv, ev, pick, argE, zipE, ne_eq, eq_self, forall_const, implies_true, if_true, if_false, reduceIte, reduceCtorEq, Nat.reduceEqDiff, Nat.reduceAdd, Nat.reduceLT, ↓us_sTouchHeads, r_sTouchHeads])
  refine m_al ?_
  rintro b1 w1 hb1 hblk1 hx1 hs1
  have h1 : Blk w1 b1 (fM nm st v) 41 := hblk1
  simp only [↓vsd, vsn, gW, qd, qv, ev, pick, argE, zipE, ne_eq, eq_self, forall_const, implies_true, if_true, if_false, reduceIte, reduceCtorEq, Nat.reduceEqDiff, Nat.reduceAdd, Nat.reduceLT, ↓us_sTouchHeads, r_sTouchHeads, h1.facts, fMg]
  refine m_al ?_
  rintro b2 w2 hb2 hblk2 hx2 hs2
  have h2 : Blk w2 b2 (fQ b s) 32 := hblk2
  have h12 := h1.ext hx2
  have hx12 := hx1.trans hx2
  simp only [↓vsd, vsn, gW, qd, qv, ev, pick, argE, zipE, ne_eq, eq_self, forall_const, implies_true, if_true, if_false, reduceIte, reduceCtorEq, Nat.reduceEqDiff, Nat.reduceAdd, Nat.reduceLT, ↓us_sTouchHeads, r_sTouchHeads, h12.facts, h2.facts, fMg, fQg]
  refine m_call (sl9Asked_ok nm st v cs b s t hnm hs hl hb ht _ (h.ext hx12)) ?_
  rintro _ w3 hx3 rfl
  have hx13 := hx12.trans hx3
  have h13 := h12.ext hx3
  have h23 := h2.ext hx3
  by_cases hM : IsMC nm st cs b s ∧ IsTch t
  · obtain ⟨n, rfl⟩ : ∃ n : Nat, st = n := ⟨st.toNat, by have := hM.1.1.2.1; omega⟩
    simp only [↓vsd, vsn, gW, qd, qv, ev, pick, argE, zipE, ne_eq, eq_self, forall_const, implies_true, if_true, if_false, reduceIte, reduceCtorEq, Nat.reduceEqDiff, Nat.reduceAdd, Nat.reduceLT, ↓us_sTouchHeads, r_sTouchHeads, hM, h13.facts, h23.facts, fMg, fQg]
    refine m_call (sl9Heads_ok nm n v cs b s t hM.1 hM.2.1.2 _ (h.ext hx13)) ?_
    rintro x w4 hx4 ho4
    simp only [↓vsd, vsn, gW, qd, qv, ev, pick, argE, zipE, ne_eq, eq_self, forall_const, implies_true, if_true, if_false, reduceIte, reduceCtorEq, Nat.reduceEqDiff, Nat.reduceAdd, Nat.reduceLT, ↓us_sTouchHeads, r_sTouchHeads]
    exact ⟨hx13.trans hx4, x, by rw [decide_eq_true (show IsMT nm n cs b s t from hM)], by rw [headsV, if_pos (show IsMT nm n cs b s t from hM)]; exact ho4.mono hx13.size⟩
  · simp only [↓vsd, vsn, gW, qd, qv, ev, pick, argE, zipE, ne_eq, eq_self, forall_const, implies_true, if_true, if_false, reduceIte, reduceCtorEq, Nat.reduceEqDiff, Nat.reduceAdd, Nat.reduceLT, ↓us_sTouchHeads, r_sTouchHeads, hM]
    exact ⟨hx13, _, by rw [decide_eq_false (show ¬ IsMT nm st cs b s t from hM)], by rw [headsV, if_neg (show ¬ IsMT nm st cs b s t from hM)]; exact Own.nil fS_len⟩
end
theorem itouchEnd_ok (nm : List UInt8) (st : Nat) (v : Value) (cs : List (List UInt8)) (b s t : List UInt8) (hM : IsMT nm st cs b s t) (w : World) (h : Sq fS 1 w v cs) : Fn 216 [mV nm st v, kV b s, S t] w (fun r _ => r = S (headP st cs b s t t.length)) := by
  (refine callsV_of mix Try.func216 c_itouchEnd ?_; simp only [↓vsd, vsn, gW, qd, qv, ev, pick, argE, zipE, ne_eq, eq_self, forall_const, implies_true, if_true, if_false, reduceIte, reduceCtorEq, Nat.reduceEqDiff, Nat.reduceAdd, Nat.reduceLT, ↓us_itouchEnd, r_itouchEnd])
  refine m_al ?_
  rintro b1 w1 hb1 hblk1 hx1 hs1
  have h1 : Blk w1 b1 (fM nm st v) 41 := hblk1
  simp only [↓vsd, vsn, gW, qd, qv, ev, pick, argE, zipE, ne_eq, eq_self, forall_const, implies_true, if_true, if_false, reduceIte, reduceCtorEq, Nat.reduceEqDiff, Nat.reduceAdd, Nat.reduceLT, ↓us_itouchEnd, r_itouchEnd, h1.facts, fMg]
  refine m_al ?_
  rintro b2 w2 hb2 hblk2 hx2 hs2
  have h2 : Blk w2 b2 (fQ b s) 32 := hblk2
  have h12 := h1.ext hx2
  have hx12 := hx1.trans hx2
  simp only [↓vsd, vsn, gW, qd, qv, ev, pick, argE, zipE, ne_eq, eq_self, forall_const, implies_true, if_true, if_false, reduceIte, reduceCtorEq, Nat.reduceEqDiff, Nat.reduceAdd, Nat.reduceLT, ↓us_itouchEnd, r_itouchEnd, h12.facts, h2.facts, fMg, fQg]
  refine m_call (iheads_ok nm st v cs b s t hM.1 ⟨hM.2.1.2, hM.2.2⟩ _ (h.ext hx12)) ?_
  rintro x w4 hx4 ho4
  have hlt : t.length < (headsP st cs b s t (t.length + 1)).length := by rw [headsP_len]; omega
  have hg := headsP_get st cs b s t (t.length + 1) t.length (by omega)
  simp only [↓vsd, vsn, gW, qd, qv, ev, pick, argE, zipE, ne_eq, eq_self, forall_const, implies_true, if_true, if_false, reduceIte, reduceCtorEq, Nat.reduceEqDiff, Nat.reduceAdd, Nat.reduceLT, ↓us_itouchEnd, r_itouchEnd, ho4.sq.facts, headsP_len, ho4.sq.at1 [] hlt, hg]
  exact ⟨by omega, hx12.trans hx4⟩
theorem sl9End_ok (nm : List UInt8) (st : Nat) (v : Value) (cs : List (List UInt8)) (b s t : List UInt8) (hM : IsMT nm st cs b s t) (w : World) (h : Sq fS 1 w v cs) : Fn 164 [mV nm st v, kV b s, S t] w (fun r _ => r = S (headP st cs b s t t.length)) := by
  (refine callsV_of mix Try.func164 c_sl9End ?_; simp only [↓vsd, vsn, gW, qd, qv, ev, pick, argE, zipE, ne_eq, eq_self, forall_const, implies_true, if_true, if_false, reduceIte, reduceCtorEq, Nat.reduceEqDiff, Nat.reduceAdd, Nat.reduceLT, ↓us_sl9End, r_sl9End])
  refine m_al ?_
  rintro b1 w1 hb1 hblk1 hx1 hs1
  have h1 : Blk w1 b1 (fM nm st v) 41 := hblk1
  simp only [↓vsd, vsn, gW, qd, qv, ev, pick, argE, zipE, ne_eq, eq_self, forall_const, implies_true, if_true, if_false, reduceIte, reduceCtorEq, Nat.reduceEqDiff, Nat.reduceAdd, Nat.reduceLT, ↓us_sl9End, r_sl9End, h1.facts, fMg]
  refine m_al ?_
  rintro b2 w2 hb2 hblk2 hx2 hs2
  have h2 : Blk w2 b2 (fQ b s) 32 := hblk2
  have h12 := h1.ext hx2
  have hx12 := hx1.trans hx2
  simp only [↓vsd, vsn, gW, qd, qv, ev, pick, argE, zipE, ne_eq, eq_self, forall_const, implies_true, if_true, if_false, reduceIte, reduceCtorEq, Nat.reduceEqDiff, Nat.reduceAdd, Nat.reduceLT, ↓us_sl9End, r_sl9End, h12.facts, h2.facts, fMg, fQg]
  refine m_call (sl9Heads_ok nm st v cs b s t hM.1 hM.2.1.2 _ (h.ext hx12)) ?_
  rintro x w4 hx4 ho4
  have hlt : t.length < (headsP st cs b s t (t.length + 1)).length := by rw [headsP_len]; omega
  have hg := headsP_get st cs b s t (t.length + 1) t.length (by omega)
  simp only [↓vsd, vsn, gW, qd, qv, ev, pick, argE, zipE, ne_eq, eq_self, forall_const, implies_true, if_true, if_false, reduceIte, reduceCtorEq, Nat.reduceEqDiff, Nat.reduceAdd, Nat.reduceLT, ↓us_sl9End, r_sl9End, ho4.sq.facts, headsP_len, ho4.sq.at1 [] hlt, hg]
  exact ⟨by omega, hx12.trans hx4⟩
theorem icomesRound_ok (nm : List UInt8) (st : Nat) (v : Value) (cs : List (List UInt8)) (b s t : List UInt8) (hM : IsMT nm st cs b s t) (w : World) (h : Sq fS 1 w v cs) : Fn 162 [mV nm st v, kV b s, S t] w (fun r _ => r = .bool (decide (headP st cs b s t t.length = roundsL st))) := by
  (refine callsV_of mix Try.func162 c_icomesRound ?_; simp only [↓vsd, vsn, gW, qd, qv, ev, pick, argE, zipE, ne_eq, eq_self, forall_const, implies_true, if_true, if_false, reduceIte, reduceCtorEq, Nat.reduceEqDiff, Nat.reduceAdd, Nat.reduceLT, ↓us_icomesRound, r_icomesRound])
  refine m_al ?_
  rintro b1 w1 hb1 hblk1 hx1 hs1
  have h1 : Blk w1 b1 (fM nm st v) 41 := hblk1
  simp only [↓vsd, vsn, gW, qd, qv, ev, pick, argE, zipE, ne_eq, eq_self, forall_const, implies_true, if_true, if_false, reduceIte, reduceCtorEq, Nat.reduceEqDiff, Nat.reduceAdd, Nat.reduceLT, ↓us_icomesRound, r_icomesRound, h1.facts, fMg]
  refine m_al ?_
  rintro b2 w2 hb2 hblk2 hx2 hs2
  have h2 : Blk w2 b2 (fQ b s) 32 := hblk2
  have h12 := h1.ext hx2
  have hx12 := hx1.trans hx2
  simp only [↓vsd, vsn, gW, qd, qv, ev, pick, argE, zipE, ne_eq, eq_self, forall_const, implies_true, if_true, if_false, reduceIte, reduceCtorEq, Nat.reduceEqDiff, Nat.reduceAdd, Nat.reduceLT, ↓us_icomesRound, r_icomesRound, h12.facts, h2.facts, fMg, fQg]
  refine m_call (itouchEnd_ok nm st v cs b s t hM _ (h.ext (dr hx12))) ?_
  rintro _ w4 hx4 rfl
  have hx4 := ud hx4
  have h14 := h12.ext hx4
  simp only [↓vsd, vsn, gW, qd, qv, ev, pick, argE, zipE, ne_eq, eq_self, forall_const, implies_true, if_true, if_false, reduceIte, reduceCtorEq, Nat.reduceEqDiff, Nat.reduceAdd, Nat.reduceLT, ↓us_icomesRound, r_icomesRound, h12.facts, h14.facts, fMg]
  refine m_call (irounds_ok st (by have := hM.1.1.2.1; omega) _) ?_
  rintro _ w5 hx5 rfl
  simp only [↓vsd, vsn, gW, qd, qv, ev, pick, argE, zipE, ne_eq, eq_self, forall_const, implies_true, if_true, if_false, reduceIte, reduceCtorEq, Nat.reduceEqDiff, Nat.reduceAdd, Nat.reduceLT, ↓us_icomesRound, r_icomesRound]
  exact (hx12.trans hx4).trans (by first | exact hx5 | exact ud hx5)
section
variable (nm : List UInt8) (st : Int) (v : Value) (cs : List (List UInt8)) (b s t : List UInt8) (hnm : nm.length ≤ 1048576) (hs : ∀ c ∈ cs, c.length ≤ 1048576) (hl : cs.length ≤ 1000000000) (hb : b.length ≤ 1048576 ∧ s.length ≤ 1048576) (ht : t.length ≤ 1000000000)
include hnm hs hl hb ht
theorem iTouchEnd_ok (w : World) (h : Sq fS 1 w v cs) : Fn 79 [mV nm st v, kV b s, S t] w (fun r _ => r = endV nm st cs b s t) := by
  (refine callsV_of mix Try.func79 c_iTouchEnd ?_; simp only [↓vsd, vsn, gW, qd, qv, ev, pick, argE, zipE, ne_eq, eq_self, forall_const, implies_true, if_true, if_false, reduceIte, reduceCtorEq, Nat.reduceEqDiff, Nat.reduceAdd, Nat.reduceLT, ↓us_iTouchEnd, r_iTouchEnd])
  refine m_al ?_
  rintro b1 w1 hb1 hblk1 hx1 hs1
  have h1 : Blk w1 b1 (fM nm st v) 41 := hblk1
  simp only [↓vsd, vsn, gW, qd, qv, ev, pick, argE, zipE, ne_eq, eq_self, forall_const, implies_true, if_true, if_false, reduceIte, reduceCtorEq, Nat.reduceEqDiff, Nat.reduceAdd, Nat.reduceLT, ↓us_iTouchEnd, r_iTouchEnd, h1.facts, fMg]
  refine m_al ?_
  rintro b2 w2 hb2 hblk2 hx2 hs2
  have h2 : Blk w2 b2 (fQ b s) 32 := hblk2
  have h12 := h1.ext hx2
  have hx12 := hx1.trans hx2
  simp only [↓vsd, vsn, gW, qd, qv, ev, pick, argE, zipE, ne_eq, eq_self, forall_const, implies_true, if_true, if_false, reduceIte, reduceCtorEq, Nat.reduceEqDiff, Nat.reduceAdd, Nat.reduceLT, ↓us_iTouchEnd, r_iTouchEnd, h12.facts, h2.facts, fMg, fQg]
  refine m_call (igoodFor_ok nm st v cs b s t hnm hs hl hb ht _ (h.ext hx12)) ?_
  rintro _ w3 hx3 rfl
  have hx13 := hx12.trans hx3
  have h13 := h12.ext hx3
  have h23 := h2.ext hx3
  by_cases hM : IsMC nm st cs b s ∧ IsTch t
  · obtain ⟨n, rfl⟩ : ∃ n : Nat, st = n := ⟨st.toNat, by have := hM.1.1.2.1; omega⟩
    simp only [↓vsd, vsn, gW, qd, qv, ev, pick, argE, zipE, ne_eq, eq_self, forall_const, implies_true, if_true, if_false, reduceIte, reduceCtorEq, Nat.reduceEqDiff, Nat.reduceAdd, Nat.reduceLT, ↓us_iTouchEnd, r_iTouchEnd, hM, h13.facts, h23.facts, fMg, fQg]
    refine m_call (itouchEnd_ok nm n v cs b s t hM _ (h.ext hx13)) ?_
    rintro _ w4 hx4 rfl
    simp only [↓vsd, vsn, gW, qd, qv, ev, pick, argE, zipE, ne_eq, eq_self, forall_const, implies_true, if_true, if_false, reduceIte, reduceCtorEq, Nat.reduceEqDiff, Nat.reduceAdd, Nat.reduceLT, ↓us_iTouchEnd, r_iTouchEnd]
    exact ⟨hx13.trans hx4, by rw [endV, if_pos (show IsMT nm n cs b s t from hM)]; rfl⟩
  · simp only [↓vsd, vsn, gW, qd, qv, ev, pick, argE, zipE, ne_eq, eq_self, forall_const, implies_true, if_true, if_false, reduceIte, reduceCtorEq, Nat.reduceEqDiff, Nat.reduceAdd, Nat.reduceLT, ↓us_iTouchEnd, r_iTouchEnd, hM]
    exact ⟨hx13, by rw [endV, if_neg (show ¬ IsMT nm st cs b s t from hM)]⟩
theorem sTouchEnd_ok (w : World) (h : Sq fS 1 w v cs) : Fn 80 [mV nm st v, kV b s, S t] w (fun r _ => r = endV nm st cs b s t) := by
  (refine callsV_of mix Try.func80 c_sTouchEnd ?_; simp only [↓vsd, vsn, gW, qd, qv, ev, pick, argE, zipE, ne_eq, eq_self, forall_const, implies_true, if_true, if_false, reduceIte, reduceCtorEq, Nat.reduceEqDiff, Nat.reduceAdd, Nat.reduceLT, ↓us_sTouchEnd, r_sTouchEnd])
  refine m_al ?_
  rintro b1 w1 hb1 hblk1 hx1 hs1
  have h1 : Blk w1 b1 (fM nm st v) 41 := hblk1
  simp only [↓vsd, vsn, gW, qd, qv, ev, pick, argE, zipE, ne_eq, eq_self, forall_const, implies_true, if_true, if_false, reduceIte, reduceCtorEq, Nat.reduceEqDiff, Nat.reduceAdd, Nat.reduceLT, ↓us_sTouchEnd, r_sTouchEnd, h1.facts, fMg]
  refine m_al ?_
  rintro b2 w2 hb2 hblk2 hx2 hs2
  have h2 : Blk w2 b2 (fQ b s) 32 := hblk2
  have h12 := h1.ext hx2
  have hx12 := hx1.trans hx2
  simp only [↓vsd, vsn, gW, qd, qv, ev, pick, argE, zipE, ne_eq, eq_self, forall_const, implies_true, if_true, if_false, reduceIte, reduceCtorEq, Nat.reduceEqDiff, Nat.reduceAdd, Nat.reduceLT, ↓us_sTouchEnd, r_sTouchEnd, h12.facts, h2.facts, fMg, fQg]
  refine m_call (sl9Asked_ok nm st v cs b s t hnm hs hl hb ht _ (h.ext hx12)) ?_
  rintro _ w3 hx3 rfl
  have hx13 := hx12.trans hx3
  have h13 := h12.ext hx3
  have h23 := h2.ext hx3
  by_cases hM : IsMC nm st cs b s ∧ IsTch t
  · obtain ⟨n, rfl⟩ : ∃ n : Nat, st = n := ⟨st.toNat, by have := hM.1.1.2.1; omega⟩
    simp only [↓vsd, vsn, gW, qd, qv, ev, pick, argE, zipE, ne_eq, eq_self, forall_const, implies_true, if_true, if_false, reduceIte, reduceCtorEq, Nat.reduceEqDiff, Nat.reduceAdd, Nat.reduceLT, ↓us_sTouchEnd, r_sTouchEnd, hM, h13.facts, h23.facts, fMg, fQg]
    refine m_call (sl9End_ok nm n v cs b s t hM _ (h.ext hx13)) ?_
    rintro _ w4 hx4 rfl
    simp only [↓vsd, vsn, gW, qd, qv, ev, pick, argE, zipE, ne_eq, eq_self, forall_const, implies_true, if_true, if_false, reduceIte, reduceCtorEq, Nat.reduceEqDiff, Nat.reduceAdd, Nat.reduceLT, ↓us_sTouchEnd, r_sTouchEnd]
    exact ⟨hx13.trans hx4, by rw [endV, if_pos (show IsMT nm n cs b s t from hM)]; rfl⟩
  · simp only [↓vsd, vsn, gW, qd, qv, ev, pick, argE, zipE, ne_eq, eq_self, forall_const, implies_true, if_true, if_false, reduceIte, reduceCtorEq, Nat.reduceEqDiff, Nat.reduceAdd, Nat.reduceLT, ↓us_sTouchEnd, r_sTouchEnd, hM]
    exact ⟨hx13, by rw [endV, if_neg (show ¬ IsMT nm st cs b s t from hM)]⟩
theorem iIsRound_ok (w : World) (h : Sq fS 1 w v cs) : Fn 27 [mV nm st v, kV b s, S t] w (fun r _ => r = rndV nm st cs b s t) := by
  (refine callsV_of mix Try.func27 c_iIsRound ?_; simp only [↓vsd, vsn, gW, qd, qv, ev, pick, argE, zipE, ne_eq, eq_self, forall_const, implies_true, if_true, if_false, reduceIte, reduceCtorEq, Nat.reduceEqDiff, Nat.reduceAdd, Nat.reduceLT, ↓us_iIsRound, r_iIsRound])
  refine m_al ?_
  rintro b1 w1 hb1 hblk1 hx1 hs1
  have h1 : Blk w1 b1 (fM nm st v) 41 := hblk1
  simp only [↓vsd, vsn, gW, qd, qv, ev, pick, argE, zipE, ne_eq, eq_self, forall_const, implies_true, if_true, if_false, reduceIte, reduceCtorEq, Nat.reduceEqDiff, Nat.reduceAdd, Nat.reduceLT, ↓us_iIsRound, r_iIsRound, h1.facts, fMg]
  refine m_al ?_
  rintro b2 w2 hb2 hblk2 hx2 hs2
  have h2 : Blk w2 b2 (fQ b s) 32 := hblk2
  have h12 := h1.ext hx2
  have hx12 := hx1.trans hx2
  simp only [↓vsd, vsn, gW, qd, qv, ev, pick, argE, zipE, ne_eq, eq_self, forall_const, implies_true, if_true, if_false, reduceIte, reduceCtorEq, Nat.reduceEqDiff, Nat.reduceAdd, Nat.reduceLT, ↓us_iIsRound, r_iIsRound, h12.facts, h2.facts, fMg, fQg]
  refine m_call (igoodFor_ok nm st v cs b s t hnm hs hl hb ht _ (h.ext hx12)) ?_
  rintro _ w3 hx3 rfl
  have hx13 := hx12.trans hx3
  have h13 := h12.ext hx3
  have h23 := h2.ext hx3
  by_cases hM : IsMC nm st cs b s ∧ IsTch t
  · obtain ⟨n, rfl⟩ : ∃ n : Nat, st = n := ⟨st.toNat, by have := hM.1.1.2.1; omega⟩
    simp only [↓vsd, vsn, gW, qd, qv, ev, pick, argE, zipE, ne_eq, eq_self, forall_const, implies_true, if_true, if_false, reduceIte, reduceCtorEq, Nat.reduceEqDiff, Nat.reduceAdd, Nat.reduceLT, ↓us_iIsRound, r_iIsRound, hM, h13.facts, h23.facts, fMg, fQg]
    refine m_call (icomesRound_ok nm n v cs b s t hM _ (h.ext hx13)) ?_
    rintro _ w4 hx4 rfl
    simp only [↓vsd, vsn, gW, qd, qv, ev, pick, argE, zipE, ne_eq, eq_self, forall_const, implies_true, if_true, if_false, reduceIte, reduceCtorEq, Nat.reduceEqDiff, Nat.reduceAdd, Nat.reduceLT, ↓us_iIsRound, r_iIsRound]
    exact ⟨hx13.trans hx4, by rw [rndV, if_pos (show IsMT nm n cs b s t from hM)]; rfl⟩
  · simp only [↓vsd, vsn, gW, qd, qv, ev, pick, argE, zipE, ne_eq, eq_self, forall_const, implies_true, if_true, if_false, reduceIte, reduceCtorEq, Nat.reduceEqDiff, Nat.reduceAdd, Nat.reduceLT, ↓us_iIsRound, r_iIsRound, hM]
    exact ⟨hx13, by rw [rndV, if_neg (show ¬ IsMT nm st cs b s t from hM)]⟩
theorem sIsRound_ok (w : World) (h : Sq fS 1 w v cs) : Fn 28 [mV nm st v, kV b s, S t] w (fun r _ => r = rndV nm st cs b s t) := by
  (refine callsV_of mix Try.func28 c_sIsRound ?_; simp only [↓vsd, vsn, gW, qd, qv, ev, pick, argE, zipE, ne_eq, eq_self, forall_const, implies_true, if_true, if_false, reduceIte, reduceCtorEq, Nat.reduceEqDiff, Nat.reduceAdd, Nat.reduceLT, ↓us_sIsRound, r_sIsRound])
  refine m_al ?_
  rintro b1 w1 hb1 hblk1 hx1 hs1
  have h1 : Blk w1 b1 (fM nm st v) 41 := hblk1
  simp only [↓vsd, vsn, gW, qd, qv, ev, pick, argE, zipE, ne_eq, eq_self, forall_const, implies_true, if_true, if_false, reduceIte, reduceCtorEq, Nat.reduceEqDiff, Nat.reduceAdd, Nat.reduceLT, ↓us_sIsRound, r_sIsRound, h1.facts, fMg]
  refine m_al ?_
  rintro b2 w2 hb2 hblk2 hx2 hs2
  have h2 : Blk w2 b2 (fQ b s) 32 := hblk2
  have h12 := h1.ext hx2
  have hx12 := hx1.trans hx2
  simp only [↓vsd, vsn, gW, qd, qv, ev, pick, argE, zipE, ne_eq, eq_self, forall_const, implies_true, if_true, if_false, reduceIte, reduceCtorEq, Nat.reduceEqDiff, Nat.reduceAdd, Nat.reduceLT, ↓us_sIsRound, r_sIsRound, h12.facts, h2.facts, fMg, fQg]
  refine m_call (sl9Asked_ok nm st v cs b s t hnm hs hl hb ht _ (h.ext hx12)) ?_
  rintro _ w3 hx3 rfl
  have hx13 := hx12.trans hx3
  have h13 := h12.ext hx3
  have h23 := h2.ext hx3
  by_cases hM : IsMC nm st cs b s ∧ IsTch t
  · obtain ⟨n, rfl⟩ : ∃ n : Nat, st = n := ⟨st.toNat, by have := hM.1.1.2.1; omega⟩
    simp only [↓vsd, vsn, gW, qd, qv, ev, pick, argE, zipE, ne_eq, eq_self, forall_const, implies_true, if_true, if_false, reduceIte, reduceCtorEq, Nat.reduceEqDiff, Nat.reduceAdd, Nat.reduceLT, ↓us_sIsRound, r_sIsRound, hM, h13.facts, h23.facts, fMg, fQg]
    refine m_call (sl9End_ok nm n v cs b s t hM _ (h.ext (dr hx13))) ?_
    rintro _ w4 hx4 rfl
    have hx4 := ud hx4
    have h14 := h13.ext hx4
    simp only [↓vsd, vsn, gW, qd, qv, ev, pick, argE, zipE, ne_eq, eq_self, forall_const, implies_true, if_true, if_false, reduceIte, reduceCtorEq, Nat.reduceEqDiff, Nat.reduceAdd, Nat.reduceLT, ↓us_sIsRound, r_sIsRound, h13.facts, h14.facts, fMg]
    refine m_call (sl1Rounds_ok n (by have := hM.1.1.2.1; omega) _) ?_
    rintro _ w5 hx5 rfl
    simp only [↓vsd, vsn, gW, qd, qv, ev, pick, argE, zipE, ne_eq, eq_self, forall_const, implies_true, if_true, if_false, reduceIte, reduceCtorEq, Nat.reduceEqDiff, Nat.reduceAdd, Nat.reduceLT, ↓us_sIsRound, r_sIsRound]
    exact ⟨(hx13.trans hx4).trans (by first | exact hx5 | exact ud hx5), by rw [rndV, if_pos (show IsMT nm n cs b s t from hM)]; rfl⟩
  · simp only [↓vsd, vsn, gW, qd, qv, ev, pick, argE, zipE, ne_eq, eq_self, forall_const, implies_true, if_true, if_false, reduceIte, reduceCtorEq, Nat.reduceEqDiff, Nat.reduceAdd, Nat.reduceLT, ↓us_sIsRound, r_sIsRound, hM]
    exact ⟨hx13, by rw [rndV, if_neg (show ¬ IsMT nm st cs b s t from hM)]⟩
end
theorem sGoodTouch_ok (l : List UInt8) (hl : l.length ≤ 1000000000) (w : World) : Fn 83 [S l] w (fun r _ => r = .bool (decide (IsTch l))) := by
  (refine callsV_of mix Try.func83 c_sGoodTouch ?_; simp only [↓vsd, vsn, gW, qd, qv, ev, pick, argE, zipE, ne_eq, eq_self, forall_const, implies_true, if_true, if_false, reduceIte, reduceCtorEq, Nat.reduceEqDiff, Nat.reduceAdd, Nat.reduceLT, ↓us_sGoodTouch, r_sGoodTouch])
  refine m_call (sl9Good_okt l hl _) ?_
  rintro _ w1 hx1 rfl
  simp only [↓vsd, vsn, gW, qd, qv, ev, pick, argE, zipE, ne_eq, eq_self, forall_const, implies_true, if_true, if_false, reduceIte, reduceCtorEq, Nat.reduceEqDiff, Nat.reduceAdd, Nat.reduceLT, ↓us_sGoodTouch, r_sGoodTouch]
  exact hx1
end Go.Proofs.Ytpnopboffalfnaa
