/-
  The drawing of called leads.
  Conditions: none.
-/
import Derived.Test.YtpnopboffalfnaaD22
set_option linter.unusedSimpArgs false
set_option linter.unusedVariables false
set_option linter.defProp false
namespace Go.Proofs.Ytpnopboffalfnaa
open Go Go.RowKit
section
variable (P : Program) (k : KT) (e : Env) (w : World)
abbrev b304_1 : X := (.seq (.drw [2, 3] (.c (.q 12 [] (.mv (.t 4))) (.c (.q 13 [] (.lda 3 (.t 5))) (.alt (.c (.p 11 [] (.lda 3 (.t 5))) (.c (.e (some 14) [] (.call true 259 [(.t 12), (.t 13)])) (.c (.e none [] (.st 3 (.t 2) (.t 11))) (.c (.e none [] (.st 2 (.t 3) (.t 14))) .nil)))) (.c (.e (some 14) [] (.call true 259 [(.t 12), (.t 13)])) (.c (.p 11 [] (.lda 3 (.t 5))) (.c (.e none [] (.st 3 (.t 2) (.t 11))) (.c (.e none [] (.st 2 (.t 3) (.t 14))) .nil)))))))) .ret)
def t304_1 := b304_1
theorem u304_1 : vcK P t304_1 k e w = vcK P b304_1 k e w := rfl
abbrev b304_2 : X := (.seq (.reg [2, 3, 4, 5] (.c (.q 9 [] (.mv (.t 4))) (.c (.e (some 10) [] (.call true 169 [(.t 9)])) (.c (.e (some 5) [] (.al 41 [(S []), (.int .i64 0), (.slice none 0 0)])) (.c (.e none [] (.st 3 (.t 5) (.t 10))) .nil))))) t304_1)
def t304_2 := b304_2
theorem u304_2 : vcK P t304_2 k e w = vcK P b304_2 k e w := rfl
abbrev b304_3 : X := (.seq (.reg [2, 3, 4] (.c (.q 6 [] (.mv (.t 0))) (.c (.q 7 [] (.bld [(.slice none 0 0), (.int .i64 0), (.int .u64 0)] [(0, 0, (.t 6))])) (.c (.e (some 8) [] (.box 132 (.t 7))) (.c (.q 4 [] (.mv (.t 8))) .nil))))) t304_2)
def t304_3 := b304_3
theorem u304_3 : vcK P t304_3 k e w = vcK P b304_3 k e w := rfl
abbrev b304_0 : X := (.seq (.reg [0, 2, 3] (.c (.e (some 2) [] (.al 41 [(S []), (.int .i64 0), (.slice none 0 0)])) (.c (.e (some 3) [] (.al 32 [(S []), (S [])])) .nil))) t304_3)
def x_sDrawGoodCalls := b304_0
theorem u304_0 : vcK P x_sDrawGoodCalls k e w = vcK P b304_0 k e w := rfl
def r_sDrawGoodCalls : List XO := [(.lda 3 (.t 2)), (.lda 2 (.t 3))]
theorem c_sDrawGoodCalls : convF Try.prog [169, 170, 207, 208, 210, 227, 232, 233, 255, 259, 268, 269, 270, 280, 281, 296, 299, 306, 307, 309] Try.f304 [([0, 2, 3], []), ([2, 3, 4], []), ([2, 3, 4, 5], []), ([2, 3], [])] = some (x_sDrawGoodCalls, r_sDrawGoodCalls) := by kernel_rfl
def us_sDrawGoodCalls := aI @u304_0 (aI @u304_1 (aI @u304_2 @u304_3))
abbrev b244_1 : X := (.seq (.drw [2, 3, 4] (.c (.q 18 [] (.mv (.t 7))) (.alt (.c (.p 16 [] (.lda 3 (.t 5))) (.alt (.c (.p 17 [] (.lda 2 (.t 6))) (.c (.e (some 19) [] (.bsl 9 1 [(.s [112]), (.s [98]), (.s [115]), (.s [98]), (.s [115]), (.s []), (.s [98, 98]), (.s [120])])) (.c (.e (some 20) [] (.call true 255 [(.t 18), (.t 19)])) (.c (.e none [] (.st 3 (.t 2) (.t 16))) (.c (.e none [] (.st 2 (.t 3) (.t 17))) (.c (.q 4 [] (.mv (.t 20))) .nil)))))) (.c (.e (some 19) [] (.bsl 9 1 [(.s [112]), (.s [98]), (.s [115]), (.s [98]), (.s [115]), (.s []), (.s [98, 98]), (.s [120])])) (.alt (.c (.p 17 [] (.lda 2 (.t 6))) (.c (.e (some 20) [] (.call true 255 [(.t 18), (.t 19)])) (.c (.e none [] (.st 3 (.t 2) (.t 16))) (.c (.e none [] (.st 2 (.t 3) (.t 17))) (.c (.q 4 [] (.mv (.t 20))) .nil))))) (.c (.e (some 20) [] (.call true 255 [(.t 18), (.t 19)])) (.alt (.c (.p 17 [] (.lda 2 (.t 6))) (.c (.e none [] (.st 3 (.t 2) (.t 16))) (.c (.e none [] (.st 2 (.t 3) (.t 17))) (.c (.q 4 [] (.mv (.t 20))) .nil)))) (.c (.e none [] (.st 3 (.t 2) (.t 16))) (.c (.p 17 [] (.lda 2 (.t 6))) (.c (.e none [] (.st 2 (.t 3) (.t 17))) (.c (.q 4 [] (.mv (.t 20))) .nil)))))))))) (.alt (.c (.p 17 [] (.lda 2 (.t 6))) (.alt (.c (.p 16 [] (.lda 3 (.t 5))) (.c (.e (some 19) [] (.bsl 9 1 [(.s [112]), (.s [98]), (.s [115]), (.s [98]), (.s [115]), (.s []), (.s [98, 98]), (.s [120])])) (.c (.e (some 20) [] (.call true 255 [(.t 18), (.t 19)])) (.c (.e none [] (.st 3 (.t 2) (.t 16))) (.c (.e none [] (.st 2 (.t 3) (.t 17))) (.c (.q 4 [] (.mv (.t 20))) .nil)))))) (.c (.e (some 19) [] (.bsl 9 1 [(.s [112]), (.s [98]), (.s [115]), (.s [98]), (.s [115]), (.s []), (.s [98, 98]), (.s [120])])) (.alt (.c (.p 16 [] (.lda 3 (.t 5))) (.c (.e (some 20) [] (.call true 255 [(.t 18), (.t 19)])) (.c (.e none [] (.st 3 (.t 2) (.t 16))) (.c (.e none [] (.st 2 (.t 3) (.t 17))) (.c (.q 4 [] (.mv (.t 20))) .nil))))) (.c (.e (some 20) [] (.call true 255 [(.t 18), (.t 19)])) (.c (.p 16 [] (.lda 3 (.t 5))) (.c (.e none [] (.st 3 (.t 2) (.t 16))) (.c (.e none [] (.st 2 (.t 3) (.t 17))) (.c (.q 4 [] (.mv (.t 20))) .nil))))))))) (.c (.e (some 19) [] (.bsl 9 1 [(.s [112]), (.s [98]), (.s [115]), (.s [98]), (.s [115]), (.s []), (.s [98, 98]), (.s [120])])) (.alt (.c (.p 16 [] (.lda 3 (.t 5))) (.alt (.c (.p 17 [] (.lda 2 (.t 6))) (.c (.e (some 20) [] (.call true 255 [(.t 18), (.t 19)])) (.c (.e none [] (.st 3 (.t 2) (.t 16))) (.c (.e none [] (.st 2 (.t 3) (.t 17))) (.c (.q 4 [] (.mv (.t 20))) .nil))))) (.c (.e (some 20) [] (.call true 255 [(.t 18), (.t 19)])) (.alt (.c (.p 17 [] (.lda 2 (.t 6))) (.c (.e none [] (.st 3 (.t 2) (.t 16))) (.c (.e none [] (.st 2 (.t 3) (.t 17))) (.c (.q 4 [] (.mv (.t 20))) .nil)))) (.c (.e none [] (.st 3 (.t 2) (.t 16))) (.c (.p 17 [] (.lda 2 (.t 6))) (.c (.e none [] (.st 2 (.t 3) (.t 17))) (.c (.q 4 [] (.mv (.t 20))) .nil)))))))) (.alt (.c (.p 17 [] (.lda 2 (.t 6))) (.alt (.c (.p 16 [] (.lda 3 (.t 5))) (.c (.e (some 20) [] (.call true 255 [(.t 18), (.t 19)])) (.c (.e none [] (.st 3 (.t 2) (.t 16))) (.c (.e none [] (.st 2 (.t 3) (.t 17))) (.c (.q 4 [] (.mv (.t 20))) .nil))))) (.c (.e (some 20) [] (.call true 255 [(.t 18), (.t 19)])) (.c (.p 16 [] (.lda 3 (.t 5))) (.c (.e none [] (.st 3 (.t 2) (.t 16))) (.c (.e none [] (.st 2 (.t 3) (.t 17))) (.c (.q 4 [] (.mv (.t 20))) .nil))))))) (.c (.e (some 20) [] (.call true 255 [(.t 18), (.t 19)])) (.alt (.c (.p 16 [] (.lda 3 (.t 5))) (.alt (.c (.p 17 [] (.lda 2 (.t 6))) (.c (.e none [] (.st 3 (.t 2) (.t 16))) (.c (.e none [] (.st 2 (.t 3) (.t 17))) (.c (.q 4 [] (.mv (.t 20))) .nil)))) (.c (.e none [] (.st 3 (.t 2) (.t 16))) (.c (.p 17 [] (.lda 2 (.t 6))) (.c (.e none [] (.st 2 (.t 3) (.t 17))) (.c (.q 4 [] (.mv (.t 20))) .nil)))))) (.c (.p 17 [] (.lda 2 (.t 6))) (.c (.p 16 [] (.lda 3 (.t 5))) (.c (.e none [] (.st 3 (.t 2) (.t 16))) (.c (.e none [] (.st 2 (.t 3) (.t 17))) (.c (.q 4 [] (.mv (.t 20))) .nil)))))))))))))) .ret)
def t244_1 := b244_1
theorem u244_1 : vcK P t244_1 k e w = vcK P b244_1 k e w := rfl
abbrev b244_2 : X := (.seq (.reg [2, 3, 5, 6, 7] (.c (.q 13 [] (.mv (.t 0))) (.c (.q 14 [] (.bld [(.slice none 0 0), (.int .i64 0), (.int .u64 0)] [(0, 0, (.t 13))])) (.c (.e (some 15) [] (.box 132 (.t 14))) (.c (.q 7 [] (.mv (.t 15))) .nil))))) t244_1)
def t244_2 := b244_2
theorem u244_2 : vcK P t244_2 k e w = vcK P b244_2 k e w := rfl
abbrev b244_3 : X := (.seq (.reg [0, 2, 3, 5, 6] (.c (.q 9 [] (.mv (.t 0))) (.c (.e (some 10) [] (.call false 304 [(.t 9)])) (.c (.q 8 [] (.mv (.t 10))) (.c (.q 11 [] (.ext 0 (.t 8))) (.c (.q 12 [] (.ext 1 (.t 8))) (.c (.e (some 5) [] (.al 41 [(S []), (.int .i64 0), (.slice none 0 0)])) (.c (.e (some 6) [] (.al 32 [(S []), (S [])])) (.c (.e none [] (.st 3 (.t 5) (.t 11))) (.c (.e none [] (.st 2 (.t 6) (.t 12))) .nil)))))))))) t244_2)
def t244_3 := b244_3
theorem u244_3 : vcK P t244_3 k e w = vcK P b244_3 k e w := rfl
abbrev b244_0 : X := (.seq (.reg [0, 2, 3] (.c (.e (some 2) [] (.al 41 [(S []), (.int .i64 0), (.slice none 0 0)])) (.c (.e (some 3) [] (.al 32 [(S []), (S [])])) (.c (.q 4 [] (.mv (.s []))) .nil)))) t244_3)
def x_sDrawCalledLead := b244_0
theorem u244_0 : vcK P x_sDrawCalledLead k e w = vcK P b244_0 k e w := rfl
def r_sDrawCalledLead : List XO := [(.lda 3 (.t 2)), (.lda 2 (.t 3)), (.mv (.t 4))]
theorem c_sDrawCalledLead : convF Try.prog [169, 170, 207, 208, 210, 227, 232, 233, 255, 259, 268, 269, 270, 280, 281, 296, 299, 306, 307, 309] Try.f244 [([0, 2, 3], []), ([0, 2, 3, 5, 6], []), ([2, 3, 5, 6, 7], []), ([2, 3, 4], [])] = some (x_sDrawCalledLead, r_sDrawCalledLead) := by kernel_rfl
def us_sDrawCalledLead := aI @u244_0 (aI @u244_1 (aI @u244_2 @u244_3))
abbrev b121_1 : X := (.seq (.reg [2, 3, 4] (.c (.q 5 [] (.mv (.t 0))) (.c (.e (some 6) [] (.call false 244 [(.t 5)])) (.c (.q 7 [] (.ext 0 (.t 6))) (.c (.q 8 [] (.ext 1 (.t 6))) (.c (.q 9 [] (.ext 2 (.t 6))) (.c (.e none [] (.st 3 (.t 2) (.t 7))) (.c (.e none [] (.st 2 (.t 3) (.t 8))) (.c (.q 4 [] (.mv (.t 9))) .nil))))))))) .ret)
def t121_1 := b121_1
theorem u121_1 : vcK P t121_1 k e w = vcK P b121_1 k e w := rfl
abbrev b121_0 : X := (.seq (.reg [0, 2, 3] (.c (.e (some 2) [] (.al 41 [(S []), (.int .i64 0), (.slice none 0 0)])) (.c (.e (some 3) [] (.al 32 [(S []), (S [])])) (.c (.q 4 [] (.mv (.s []))) .nil)))) t121_1)
def x_sDrawCallHead := b121_0
theorem u121_0 : vcK P x_sDrawCallHead k e w = vcK P b121_0 k e w := rfl
def r_sDrawCallHead : List XO := [(.lda 3 (.t 2)), (.lda 2 (.t 3)), (.mv (.t 4))]
theorem c_sDrawCallHead : convF Try.prog [169, 170, 207, 208, 210, 227, 232, 233, 255, 259, 268, 269, 270, 280, 281, 296, 299, 306, 307, 309] Try.f121 [([0, 2, 3], []), ([2, 3, 4], [])] = some (x_sDrawCallHead, r_sDrawCallHead) := by kernel_rfl
def us_sDrawCallHead := aI @u121_0 @u121_1
abbrev b135_1 : X := (.seq (.drw [2, 3, 4, 5] (.c (.q 25 [] (.mv (.t 8))) (.c (.q 26 [] (.mv (.t 9))) (.alt (.c (.p 23 [] (.lda 3 (.t 6))) (.alt (.c (.p 24 [] (.lda 2 (.t 7))) (.c (.e (some 27) [] (.bsl 9 1 [(.s [112]), (.s [98]), (.s [115]), (.s [113])])) (.c (.e (some 28) [] (.call true 255 [(.t 26), (.t 27)])) (.c (.e none [] (.st 3 (.t 2) (.t 23))) (.c (.e none [] (.st 2 (.t 3) (.t 24))) (.c (.q 4 [] (.mv (.t 25))) (.c (.q 5 [] (.mv (.t 28))) .nil))))))) (.c (.e (some 27) [] (.bsl 9 1 [(.s [112]), (.s [98]), (.s [115]), (.s [113])])) (.alt (.c (.p 24 [] (.lda 2 (.t 7))) (.c (.e (some 28) [] (.call true 255 [(.t 26), (.t 27)])) (.c (.e none [] (.st 3 (.t 2) (.t 23))) (.c (.e none [] (.st 2 (.t 3) (.t 24))) (.c (.q 4 [] (.mv (.t 25))) (.c (.q 5 [] (.mv (.t 28))) .nil)))))) (.c (.e (some 28) [] (.call true 255 [(.t 26), (.t 27)])) (.alt (.c (.p 24 [] (.lda 2 (.t 7))) (.c (.e none [] (.st 3 (.t 2) (.t 23))) (.c (.e none [] (.st 2 (.t 3) (.t 24))) (.c (.q 4 [] (.mv (.t 25))) (.c (.q 5 [] (.mv (.t 28))) .nil))))) (.c (.e none [] (.st 3 (.t 2) (.t 23))) (.c (.p 24 [] (.lda 2 (.t 7))) (.c (.e none [] (.st 2 (.t 3) (.t 24))) (.c (.q 4 [] (.mv (.t 25))) (.c (.q 5 [] (.mv (.t 28))) .nil))))))))))) (.alt (.c (.p 24 [] (.lda 2 (.t 7))) (.alt (.c (.p 23 [] (.lda 3 (.t 6))) (.c (.e (some 27) [] (.bsl 9 1 [(.s [112]), (.s [98]), (.s [115]), (.s [113])])) (.c (.e (some 28) [] (.call true 255 [(.t 26), (.t 27)])) (.c (.e none [] (.st 3 (.t 2) (.t 23))) (.c (.e none [] (.st 2 (.t 3) (.t 24))) (.c (.q 4 [] (.mv (.t 25))) (.c (.q 5 [] (.mv (.t 28))) .nil))))))) (.c (.e (some 27) [] (.bsl 9 1 [(.s [112]), (.s [98]), (.s [115]), (.s [113])])) (.alt (.c (.p 23 [] (.lda 3 (.t 6))) (.c (.e (some 28) [] (.call true 255 [(.t 26), (.t 27)])) (.c (.e none [] (.st 3 (.t 2) (.t 23))) (.c (.e none [] (.st 2 (.t 3) (.t 24))) (.c (.q 4 [] (.mv (.t 25))) (.c (.q 5 [] (.mv (.t 28))) .nil)))))) (.c (.e (some 28) [] (.call true 255 [(.t 26), (.t 27)])) (.c (.p 23 [] (.lda 3 (.t 6))) (.c (.e none [] (.st 3 (.t 2) (.t 23))) (.c (.e none [] (.st 2 (.t 3) (.t 24))) (.c (.q 4 [] (.mv (.t 25))) (.c (.q 5 [] (.mv (.t 28))) .nil)))))))))) (.c (.e (some 27) [] (.bsl 9 1 [(.s [112]), (.s [98]), (.s [115]), (.s [113])])) (.alt (.c (.p 23 [] (.lda 3 (.t 6))) (.alt (.c (.p 24 [] (.lda 2 (.t 7))) (.c (.e (some 28) [] (.call true 255 [(.t 26), (.t 27)])) (.c (.e none [] (.st 3 (.t 2) (.t 23))) (.c (.e none [] (.st 2 (.t 3) (.t 24))) (.c (.q 4 [] (.mv (.t 25))) (.c (.q 5 [] (.mv (.t 28))) .nil)))))) (.c (.e (some 28) [] (.call true 255 [(.t 26), (.t 27)])) (.alt (.c (.p 24 [] (.lda 2 (.t 7))) (.c (.e none [] (.st 3 (.t 2) (.t 23))) (.c (.e none [] (.st 2 (.t 3) (.t 24))) (.c (.q 4 [] (.mv (.t 25))) (.c (.q 5 [] (.mv (.t 28))) .nil))))) (.c (.e none [] (.st 3 (.t 2) (.t 23))) (.c (.p 24 [] (.lda 2 (.t 7))) (.c (.e none [] (.st 2 (.t 3) (.t 24))) (.c (.q 4 [] (.mv (.t 25))) (.c (.q 5 [] (.mv (.t 28))) .nil))))))))) (.alt (.c (.p 24 [] (.lda 2 (.t 7))) (.alt (.c (.p 23 [] (.lda 3 (.t 6))) (.c (.e (some 28) [] (.call true 255 [(.t 26), (.t 27)])) (.c (.e none [] (.st 3 (.t 2) (.t 23))) (.c (.e none [] (.st 2 (.t 3) (.t 24))) (.c (.q 4 [] (.mv (.t 25))) (.c (.q 5 [] (.mv (.t 28))) .nil)))))) (.c (.e (some 28) [] (.call true 255 [(.t 26), (.t 27)])) (.c (.p 23 [] (.lda 3 (.t 6))) (.c (.e none [] (.st 3 (.t 2) (.t 23))) (.c (.e none [] (.st 2 (.t 3) (.t 24))) (.c (.q 4 [] (.mv (.t 25))) (.c (.q 5 [] (.mv (.t 28))) .nil)))))))) (.c (.e (some 28) [] (.call true 255 [(.t 26), (.t 27)])) (.alt (.c (.p 23 [] (.lda 3 (.t 6))) (.alt (.c (.p 24 [] (.lda 2 (.t 7))) (.c (.e none [] (.st 3 (.t 2) (.t 23))) (.c (.e none [] (.st 2 (.t 3) (.t 24))) (.c (.q 4 [] (.mv (.t 25))) (.c (.q 5 [] (.mv (.t 28))) .nil))))) (.c (.e none [] (.st 3 (.t 2) (.t 23))) (.c (.p 24 [] (.lda 2 (.t 7))) (.c (.e none [] (.st 2 (.t 3) (.t 24))) (.c (.q 4 [] (.mv (.t 25))) (.c (.q 5 [] (.mv (.t 28))) .nil))))))) (.c (.p 24 [] (.lda 2 (.t 7))) (.c (.p 23 [] (.lda 3 (.t 6))) (.c (.e none [] (.st 3 (.t 2) (.t 23))) (.c (.e none [] (.st 2 (.t 3) (.t 24))) (.c (.q 4 [] (.mv (.t 25))) (.c (.q 5 [] (.mv (.t 28))) .nil)))))))))))))))) .ret)
def t135_1 := b135_1
theorem u135_1 : vcK P t135_1 k e w = vcK P b135_1 k e w := rfl
abbrev b135_2 : X := (.seq (.reg [2, 3, 6, 7, 8, 9] (.c (.q 16 [] (.mv (.t 0))) (.c (.q 17 [] (.mv (.t 0))) (.c (.q 18 [] (.lens (.t 17))) (.c (.q 19 [] (.bin .quo (.t 18) (.c (.int .i64 2)))) (.c (.q 20 [] (.ssl 1 (.t 16) (some (.t 19)) none)) (.c (.q 21 [] (.bld [(.slice none 0 0), (.int .i64 0), (.int .u64 0)] [(0, 0, (.t 20))])) (.c (.e (some 22) [] (.box 132 (.t 21))) (.c (.q 9 [] (.mv (.t 22))) .nil))))))))) t135_1)
def t135_2 := b135_2
theorem u135_2 : vcK P t135_2 k e w = vcK P b135_2 k e w := rfl
abbrev b135_3 : X := (.seq (.reg [0, 2, 3, 6, 7, 8] (.c (.q 11 [] (.mv (.t 0))) (.c (.e (some 12) [] (.call false 244 [(.t 11)])) (.c (.q 10 [] (.mv (.t 12))) (.c (.q 13 [] (.ext 0 (.t 10))) (.c (.q 14 [] (.ext 1 (.t 10))) (.c (.q 15 [] (.ext 2 (.t 10))) (.c (.e (some 6) [] (.al 41 [(S []), (.int .i64 0), (.slice none 0 0)])) (.c (.e (some 7) [] (.al 32 [(S []), (S [])])) (.c (.e none [] (.st 3 (.t 6) (.t 13))) (.c (.e none [] (.st 2 (.t 7) (.t 14))) (.c (.q 8 [] (.mv (.t 15))) .nil)))))))))))) t135_2)
def t135_3 := b135_3
theorem u135_3 : vcK P t135_3 k e w = vcK P b135_3 k e w := rfl
abbrev b135_0 : X := (.seq (.reg [0, 2, 3] (.c (.e (some 2) [] (.al 41 [(S []), (.int .i64 0), (.slice none 0 0)])) (.c (.e (some 3) [] (.al 32 [(S []), (S [])])) (.c (.q 4 [] (.mv (.s []))) (.c (.q 5 [] (.mv (.s []))) .nil))))) t135_3)
def x_sDrawSameLead := b135_0
theorem u135_0 : vcK P x_sDrawSameLead k e w = vcK P b135_0 k e w := rfl
def r_sDrawSameLead : List XO := [(.lda 3 (.t 2)), (.lda 2 (.t 3)), (.mv (.t 4)), (.mv (.t 5))]
theorem c_sDrawSameLead : convF Try.prog [169, 170, 207, 208, 210, 227, 232, 233, 255, 259, 268, 269, 270, 280, 281, 296, 299, 306, 307, 309] Try.f135 [([0, 2, 3], []), ([0, 2, 3, 6, 7, 8], []), ([2, 3, 6, 7, 8, 9], []), ([2, 3, 4, 5], [])] = some (x_sDrawSameLead, r_sDrawSameLead) := by kernel_rfl
def us_sDrawSameLead := aI @u135_0 (aI @u135_1 (aI @u135_2 @u135_3))
end

/-- A method and calls that may be spoilt. -/
def AnyK (B : Nat) (nm : List UInt8) (st : Int) (x : Value) (cs : List (List UInt8)) (p q : List UInt8) (w' : World) : Prop := Own fS 1 9 B w' x cs ∧ nm.length ≤ 11 ∧ (2 ≤ st ∧ st ≤ 9) ∧ cs.length ≤ 60 ∧ (∀ c ∈ cs, c.length ≤ 8) ∧ (p.length ≤ 8 ∧ q.length ≤ 8)
/-- The blocks of such a drawing: results b2 and b3; the method and calls in b6 and b7. -/
structure EK (w0 : World) (B b2 b3 b6 b7 : Nat) (c2 c3 cm cq : List Value) (x : Value) (cs : List (List UInt8)) (w : World) : Prop where
  r2 : Blk w b2 c2 41
  r3 : Blk w b3 c3 32
  m : Blk w b6 cm 41
  k : Blk w b7 cq 32
  own : Own fS 1 9 B w x cs
  ex : Ext w0 w
  lo : w0.heap.size ≤ b2 ∧ b2 < b3 ∧ b3 < B ∧ B ≤ b6 ∧ B ≤ b7
section
variable {w0 : World} {B b b2 b3 b6 b7 : Nat} {c2 c3 cm cq c' : List Value} {x : Value} {cs : List (List UInt8)} {w w' : World}
theorem EK.draw (h : EK w0 B b2 b3 b6 b7 c2 c3 cm cq x cs w) (hg : w.grownBy w' (some b)) (hb : w0.heap.size ≤ b ∧ b ≠ b2 ∧ b ≠ b3 ∧ b ≠ b6 ∧ b ≠ b7) (ha : Away x b) : EK w0 B b2 b3 b6 b7 c2 c3 cm cq x cs w' := by
  have hl := h.lo
  have key : ∀ c, c ≠ b → c < w.heap.size → w'.heap[c]? = w.heap[c]? := fun c hc hlt => hg.block c hlt (fun e => hc (Option.some.inj e))
  exact ⟨h.r2.same (key _ (by omega) h.r2.lt), h.r3.same (key _ (by omega) h.r3.lt), h.m.same (key _ (by omega) h.m.lt), h.k.same (key _ (by omega) h.k.lt), h.own.off hg (fun c hc => by obtain rfl := Option.some.inj hc; exact ha), ext_grow' h.ex hg (fun c hc => by have := Option.some.inj hc; omega), hl⟩
theorem EK.ext (h : EK w0 B b2 b3 b6 b7 c2 c3 cm cq x cs w) (hx : Ext w w') : EK w0 B b2 b3 b6 b7 c2 c3 cm cq x cs w' := ⟨h.r2.ext hx, h.r3.ext hx, h.m.ext hx, h.k.ext hx, h.own.ext hx, h.ex.trans hx, h.lo⟩
theorem EK.st2 (h : EK w0 B b2 b3 b6 b7 c2 c3 cm cq x cs w) (hu : Upd w w' b2) (hb : Blk w' b2 c' 41) : EK w0 B b2 b3 b6 b7 c' c3 cm cq x cs w' := by
  have hl := h.lo
  exact ⟨hb, hu.blk h.r3 (by omega), hu.blk h.m (by omega), hu.blk h.k (by omega), h.own.upd hu (h.own.away' (by omega)), hu.below h.ex (by omega), hl⟩
theorem EK.st3 (h : EK w0 B b2 b3 b6 b7 c2 c3 cm cq x cs w) (hu : Upd w w' b3) (hb : Blk w' b3 c' 32) : EK w0 B b2 b3 b6 b7 c2 c' cm cq x cs w' := by
  have hl := h.lo
  exact ⟨hu.blk h.r2 (by omega), hb, hu.blk h.m (by omega), hu.blk h.k (by omega), h.own.upd hu (h.own.away' (by omega)), hu.below h.ex (by omega), hl⟩
end
theorem sDrawGoodCalls_ok (v : Value) (code : List UInt8) (hl : code.length ≤ 1048576) (w : World) (h : Sq fU 1 w v code) : Fn 304 [v] w (fun r w' => ∃ nm st x cs p q, r = .tuple ⟨[mV nm st x, kV p q]⟩ ∧ AnyK w.heap.size nm st x cs p q w') := by
  (refine callsV_of mix Try.func304 c_sDrawGoodCalls ?_; simp only [↓vsd, vsn, gW, qd, qv, ev, pick, argE, zipE, ne_eq, eq_self, forall_const, implies_true, if_true, if_false, reduceIte, reduceCtorEq, Nat.reduceEqDiff, Nat.reduceAdd, Nat.reduceLT, ↓us_sDrawGoodCalls, r_sDrawGoodCalls])
  refine m_al ?_
  rintro b2 w2 hb2 hblk2 hx2 hs2
  simp only [↓vsd, vsn, gW, qd, qv, ev, pick, argE, zipE, ne_eq, eq_self, forall_const, implies_true, if_true, if_false, reduceIte, reduceCtorEq, Nat.reduceEqDiff, Nat.reduceAdd, Nat.reduceLT, ↓us_sDrawGoodCalls, r_sDrawGoodCalls]
  refine m_al ?_
  rintro b3 w3 hb3 hblk3 hx3 hs3
  have hx13 := hx2.trans hx3
  have h3 := h.ext hx13
  simp only [↓vsd, vsn, gW, qd, qv, ev, pick, argE, zipE, ne_eq, eq_self, forall_const, implies_true, if_true, if_false, reduceIte, reduceCtorEq, Nat.reduceEqDiff, Nat.reduceAdd, Nat.reduceLT, ↓us_sDrawGoodCalls, r_sDrawGoodCalls, h3.facts]
  refine m_al ?_
  rintro b w4 hb hblk4 hx4 hs4
  have hc := Cur.new h3 hl hb hblk4 hx4
  simp only [↓vsd, vsn, gW, qd, qv, ev, pick, argE, zipE, ne_eq, eq_self, forall_const, implies_true, if_true, if_false, reduceIte, reduceCtorEq, Nat.reduceEqDiff, Nat.reduceAdd, Nat.reduceLT, ↓us_sDrawGoodCalls, r_sDrawGoodCalls]
  refine m_callw (.inl rfl) (sl1Cur_anyMethod_ok w3 b _ w4 (by omega) hc) ?_
  rintro _ w5 ⟨hc5, hg5, nm, st, x, cs, rfl, ho5, hnm, hst, hcs, hc8⟩
  simp only [↓vsd, vsn, gW, qd, qv, ev, pick, argE, zipE, ne_eq, eq_self, forall_const, implies_true, if_true, if_false, reduceIte, reduceCtorEq, Nat.reduceEqDiff, Nat.reduceAdd, Nat.reduceLT, ↓us_sDrawGoodCalls, r_sDrawGoodCalls]
  refine m_al ?_
  rintro b6 w6 hb6 hblk6 hx6 hs6
  simp only [↓vsd, vsn, gW, qd, qv, ev, pick, argE, zipE, ne_eq, eq_self, forall_const, implies_true, if_true, if_false, reduceIte, reduceCtorEq, Nat.reduceEqDiff, Nat.reduceAdd, Nat.reduceLT, ↓us_sDrawGoodCalls, r_sDrawGoodCalls]
  refine m_st hblk6 rfl (Nat.le_refl 3) (fM_one nm st x ho5.sq.one') ?_
  rintro w7 hblk7 hu7
  have h7 : Blk w7 b6 (fM nm st x) 41 := hblk7
  have hlt5 := hc5.lt
  have ho7 := (ho5.ext hx6).upd hu7 (ho5.away (by omega))
  have hc7 := (hc5.ext hx6).keep hu7.grown (fun c hc => by have := Option.some.inj hc; omega)
  have h5s := hg5.size
  have hbb : w3.heap.size ≤ b := by omega
  have hF : Ext w3 w7 := by
    have e5 := ext_grow' hx4 hg5 (fun c hc => by have := Option.some.inj hc; omega)
    exact hu7.below (e5.trans hx6) (by have := e5.size; omega)
  have h7l := h7.lt
  -- the calls lie in no block of their own: the method's block stands for it
  have hb23 := hblk2.lt
  have hd : Ext w7 w7.drew := dr (Ext.refl _)
  simp only [↓vsd, vsn, gW, qd, qv, ev, pick, argE, zipE, ne_eq, eq_self, forall_const, implies_true, if_true, if_false, reduceIte, reduceCtorEq, Nat.reduceEqDiff, Nat.reduceAdd, Nat.reduceLT, ↓us_sDrawGoodCalls, r_sDrawGoodCalls, h7.facts, fMg]
  have key : ∀ w8, w7.grownBy w8 (some b) → Blk w8 b2 (fM [] 0 (.slice none 0 0)) 41 ∧ Blk w8 b3 (fQ [] []) 32 ∧ Blk w8 b6 (fM nm st x) 41 ∧ Own fS 1 9 (b + 1) w8 x cs ∧ Ext w w8 := fun w8 hg => by
    have hE := ext_grow' hF hg (fun c hc => by have := Option.some.inj hc; omega)
    exact ⟨(Blk.ext hblk2 hx3).ext hE, Blk.ext hblk3 hE, h7.same (hg.block b6 h7.lt (fun e => by have := Option.some.inj e; omega)), (ho7.keep hg (fun c hc => by have := Option.some.inj hc; omega)).mono (by omega), hx13.trans hE⟩
  refine ⟨?_, ?_⟩
  all_goals
    refine m_callw (.inr rfl) (sl1Cur_anyCalls_ok w3 b _ nm st x cs hnm hcs hc8 w7.drew (by omega) (hc7.ext hd) (fun w' hg => (ho7.keep (gud (by first | exact hg | exact gdr hg)) (fun c hc => by have := Option.some.inj hc; omega)).sq)) ?_
    rintro _ w8 ⟨hc8', hg8, p, q, rfl, hp8, hq8⟩
    obtain ⟨k2, k3, k6, ko, kx⟩ := key w8 (by first | exact hg8 | exact gud hg8)
    simp only [↓vsd, vsn, gW, qd, qv, ev, pick, argE, zipE, ne_eq, eq_self, forall_const, implies_true, if_true, if_false, reduceIte, reduceCtorEq, Nat.reduceEqDiff, Nat.reduceAdd, Nat.reduceLT, ↓us_sDrawGoodCalls, r_sDrawGoodCalls, k6.facts, fMg]
    refine m_st k2 rfl (Nat.le_refl 3) (fM_one nm st x ho5.sq.one') ?_
    rintro w9 hblk9 hu9
    have h9 : Blk w9 b2 (fM nm st x) 41 := hblk9
    simp only [↓vsd, vsn, gW, qd, qv, ev, pick, argE, zipE, ne_eq, eq_self, forall_const, implies_true, if_true, if_false, reduceIte, reduceCtorEq, Nat.reduceEqDiff, Nat.reduceAdd, Nat.reduceLT, ↓us_sDrawGoodCalls, r_sDrawGoodCalls]
    refine m_st (hu9.blk k3 (by omega)) rfl (Nat.le_refl 2) (fQ_one p q) ?_
    rintro wa hblka hua
    have ha : Blk wa b3 (fQ p q) 32 := hblka
    have h9a := hua.blk h9 (by omega)
    simp only [↓vsd, vsn, gW, qd, qv, ev, pick, argE, zipE, ne_eq, eq_self, forall_const, implies_true, if_true, if_false, reduceIte, reduceCtorEq, Nat.reduceEqDiff, Nat.reduceAdd, Nat.reduceLT, ↓us_sDrawGoodCalls, r_sDrawGoodCalls, h9a.facts, ha.facts, fMg, fQg]
    exact ⟨hua.below (hu9.below kx (by omega)) (by have := hx2.size; omega), nm, st, x, cs, p, q, rfl, ((ko.upd hu9 (ko.away' (by omega))).upd hua (ko.away' (by omega))).mono (by have := hx13.size; omega), hnm, hst, hcs, hc8, hp8, hq8⟩
/-- A method, calls and a call that may be spoilt. -/
def AnyC (B : Nat) (r : Value) (w' : World) : Prop := ∃ nm st x cs p q c, r = .tuple ⟨[mV nm st x, kV p q, S c]⟩ ∧ AnyK B nm st x cs p q w' ∧ c.length ≤ 2
theorem AnyK.mono {B B' : Nat} {nm : List UInt8} {st : Int} {x : Value} {cs : List (List UInt8)} {p q : List UInt8} {w : World} (h : AnyK B nm st x cs p q w) (hB : B' ≤ B) : AnyK B' nm st x cs p q w := ⟨h.1.mono hB, h.2⟩
theorem sDrawCalledLead_ok (v : Value) (code : List UInt8) (hl : code.length ≤ 1048576) (w : World) (h : Sq fU 1 w v code) : Fn 244 [v] w (fun r w' => AnyC w.heap.size r w') := by
  (refine callsV_of mix Try.func244 c_sDrawCalledLead ?_; simp only [↓vsd, vsn, gW, qd, qv, ev, pick, argE, zipE, ne_eq, eq_self, forall_const, implies_true, if_true, if_false, reduceIte, reduceCtorEq, Nat.reduceEqDiff, Nat.reduceAdd, Nat.reduceLT, ↓us_sDrawCalledLead, r_sDrawCalledLead])
  refine m_al ?_
  rintro b2 w2 hb2 hblk2 hx2 hs2
  simp only [↓vsd, vsn, gW, qd, qv, ev, pick, argE, zipE, ne_eq, eq_self, forall_const, implies_true, if_true, if_false, reduceIte, reduceCtorEq, Nat.reduceEqDiff, Nat.reduceAdd, Nat.reduceLT, ↓us_sDrawCalledLead, r_sDrawCalledLead]
  refine m_al ?_
  rintro b3 w3 hb3 hblk3 hx3 hs3
  have hx13 := hx2.trans hx3
  simp only [↓vsd, vsn, gW, qd, qv, ev, pick, argE, zipE, ne_eq, eq_self, forall_const, implies_true, if_true, if_false, reduceIte, reduceCtorEq, Nat.reduceEqDiff, Nat.reduceAdd, Nat.reduceLT, ↓us_sDrawCalledLead, r_sDrawCalledLead]
  refine m_call (sDrawGoodCalls_ok v code hl _ (h.ext hx13)) ?_
  rintro _ w4 hx4 ⟨nm, st, x, cs, p, q, rfl, ho4, hany⟩
  simp only [↓vsd, vsn, gW, qd, qv, ev, pick, argE, zipE, ne_eq, eq_self, forall_const, implies_true, if_true, if_false, reduceIte, reduceCtorEq, Nat.reduceEqDiff, Nat.reduceAdd, Nat.reduceLT, ↓us_sDrawCalledLead, r_sDrawCalledLead]
  refine m_al ?_
  rintro b5 w5 hb5 hblk5 hx5 hs5
  simp only [↓vsd, vsn, gW, qd, qv, ev, pick, argE, zipE, ne_eq, eq_self, forall_const, implies_true, if_true, if_false, reduceIte, reduceCtorEq, Nat.reduceEqDiff, Nat.reduceAdd, Nat.reduceLT, ↓us_sDrawCalledLead, r_sDrawCalledLead]
  refine m_al ?_
  rintro b6 w6 hb6 hblk6 hx6 hs6
  simp only [↓vsd, vsn, gW, qd, qv, ev, pick, argE, zipE, ne_eq, eq_self, forall_const, implies_true, if_true, if_false, reduceIte, reduceCtorEq, Nat.reduceEqDiff, Nat.reduceAdd, Nat.reduceLT, ↓us_sDrawCalledLead, r_sDrawCalledLead]
  refine m_st (Blk.ext hblk5 hx6) rfl (Nat.le_refl 3) (fM_one nm st x ho4.sq.one') ?_
  rintro w7 hblk7 hu7
  simp only [↓vsd, vsn, gW, qd, qv, ev, pick, argE, zipE, ne_eq, eq_self, forall_const, implies_true, if_true, if_false, reduceIte, reduceCtorEq, Nat.reduceEqDiff, Nat.reduceAdd, Nat.reduceLT, ↓us_sDrawCalledLead, r_sDrawCalledLead]
  refine m_st (hu7.blk hblk6 (by omega)) rfl (Nat.le_refl 2) (fQ_one p q) ?_
  rintro w8 hblk8 hu8
  have hm8 : Blk w8 b5 (fM nm st x) 41 := hu8.blk hblk7 (by omega)
  have hk8 : Blk w8 b6 (fQ p q) 32 := hblk8
  have h4s := hx4.size
  have ho8 := (((ho4.ext hx5).ext hx6).upd hu7 (ho4.away (by omega))).upd hu8 (ho4.away (by omega))
  have hF : Ext w3 w8 := hu8.below (hu7.below ((hx4.trans hx5).trans hx6) (by omega)) (by omega)
  have hq8 := (h.ext hx13).ext hF
  simp only [↓vsd, vsn, gW, qd, qv, ev, pick, argE, zipE, ne_eq, eq_self, forall_const, implies_true, if_true, if_false, reduceIte, reduceCtorEq, Nat.reduceEqDiff, Nat.reduceAdd, Nat.reduceLT, ↓us_sDrawCalledLead, r_sDrawCalledLead, hq8.facts]
  refine m_al ?_
  rintro bc w9 hbc hblk9 hx9 hs9
  have hc := Cur.new hq8 hl hbc hblk9 hx9
  have hb2l := hblk2.lt
  have hF9 := hF.trans hx9
  have es : EK w w3.heap.size b2 b3 b5 b6 (fM [] 0 (.slice none 0 0)) (fQ [] []) (fM nm st x) (fQ p q) x cs w9 := ⟨(Blk.ext hblk2 hx3).ext hF9, Blk.ext hblk3 hF9, hm8.ext hx9, hk8.ext hx9, ho8.ext hx9, hx13.trans hF9, by omega⟩
  have hm8l := hm8.lt
  have hk8l := hk8.lt
  have hF8 := hF.size
  have haw : Away x bc := ho8.away (by omega)
  have hw3 := hx13.size
  simp only [↓vsd, vsn, gW, qd, qv, ev, pick, argE, zipE, ne_eq, eq_self, forall_const, implies_true, if_true, if_false, reduceIte, reduceCtorEq, Nat.reduceEqDiff, Nat.reduceAdd, Nat.reduceLT, ↓us_sDrawCalledLead, r_sDrawCalledLead, es.m.facts, es.k.facts, fMg, fQg]
  have es := es.ext (dr (Ext.refl _))
  have hc := hc.ext (dr (Ext.refl _))
  repeat' first
    | exact ⟨es.ex, nm, st, x, cs, p, q, cc, rfl, ⟨es.own.mono (by omega), hany⟩, hcc⟩
    | refine ⟨?_, ?_⟩
    | (refine m_bsl (by simp [S]; repeat' constructor) ?_; rintro b8 _ hb8 hblk8 hx8 hs8; have hcl := hc.lt; have hb8c : bc < b8 := (by omega); replace es := es.ext hx8; replace hc := hc.ext hx8; clear hx8 hs8 hb8 hcl; simp only [↓vsd, vsn, gW, qd, qv, ev, pick, argE, zipE, ne_eq, eq_self, forall_const, implies_true, if_true, if_false, reduceIte, reduceCtorEq, Nat.reduceEqDiff, Nat.reduceAdd, Nat.reduceLT, ↓us_sDrawCalledLead, r_sDrawCalledLead, es.m.facts, es.k.facts, fMg, fQg])
    | (refine m_callw (.inr rfl) (sl1Cur_of_ok w8 bc _ _ [[112], [98], [115], [98], [115], [], [98, 98], [120]] _ (by omega) (by decide) hc (Sq.litC _ _ fS_len hblk8 rfl rfl hb8c)) ?_; rintro _ _ ⟨_, hg, cc, rfl, hcc'⟩; have hcc : cc.length ≤ 2 := (by simp only [List.mem_cons, List.not_mem_nil, or_false] at hcc'; rcases hcc' with rfl | rfl | rfl | rfl | rfl | rfl | rfl | rfl <;> decide); replace es := es.draw hg (by omega) haw; clear hc hg hcc' hblk8; simp only [↓vsd, vsn, gW, qd, qv, ev, pick, argE, zipE, ne_eq, eq_self, forall_const, implies_true, if_true, if_false, reduceIte, reduceCtorEq, Nat.reduceEqDiff, Nat.reduceAdd, Nat.reduceLT, ↓us_sDrawCalledLead, r_sDrawCalledLead, es.m.facts, es.k.facts, fMg, fQg])
    | (refine m_st es.r2 rfl (Nat.le_refl 3) (fM_one nm st x ho4.sq.one') ?_; rintro _ hb' hu; replace es := es.st2 hu (show Blk _ b2 (fM nm st x) _ from hb'); clear hb' hu; simp only [↓vsd, vsn, gW, qd, qv, ev, pick, argE, zipE, ne_eq, eq_self, forall_const, implies_true, if_true, if_false, reduceIte, reduceCtorEq, Nat.reduceEqDiff, Nat.reduceAdd, Nat.reduceLT, ↓us_sDrawCalledLead, r_sDrawCalledLead, es.m.facts, es.k.facts, fMg, fQg])
    | (refine m_st es.r3 rfl (Nat.le_refl 2) (fQ_one p q) ?_; rintro _ hb' hu; replace es := es.st3 hu (show Blk _ b3 (fQ p q) _ from hb'); clear hb' hu; simp only [↓vsd, vsn, gW, qd, qv, ev, pick, argE, zipE, ne_eq, eq_self, forall_const, implies_true, if_true, if_false, reduceIte, reduceCtorEq, Nat.reduceEqDiff, Nat.reduceAdd, Nat.reduceLT, ↓us_sDrawCalledLead, r_sDrawCalledLead, es.m.facts, es.k.facts, es.r2.facts, es.r3.facts, fMg, fQg])
theorem sDrawCallHead_ok (v : Value) (code : List UInt8) (hl : code.length ≤ 1048576) (w : World) (h : Sq fU 1 w v code) : Fn 121 [v] w (fun r w' => AnyC w.heap.size r w') := by
  (refine callsV_of mix Try.func121 c_sDrawCallHead ?_; simp only [↓vsd, vsn, gW, qd, qv, ev, pick, argE, zipE, ne_eq, eq_self, forall_const, implies_true, if_true, if_false, reduceIte, reduceCtorEq, Nat.reduceEqDiff, Nat.reduceAdd, Nat.reduceLT, ↓us_sDrawCallHead, r_sDrawCallHead])
  refine m_al ?_
  rintro b2 w2 hb2 hblk2 hx2 hs2
  simp only [↓vsd, vsn, gW, qd, qv, ev, pick, argE, zipE, ne_eq, eq_self, forall_const, implies_true, if_true, if_false, reduceIte, reduceCtorEq, Nat.reduceEqDiff, Nat.reduceAdd, Nat.reduceLT, ↓us_sDrawCallHead, r_sDrawCallHead]
  refine m_al ?_
  rintro b3 w3 hb3 hblk3 hx3 hs3
  have hx13 := hx2.trans hx3
  simp only [↓vsd, vsn, gW, qd, qv, ev, pick, argE, zipE, ne_eq, eq_self, forall_const, implies_true, if_true, if_false, reduceIte, reduceCtorEq, Nat.reduceEqDiff, Nat.reduceAdd, Nat.reduceLT, ↓us_sDrawCallHead, r_sDrawCallHead]
  refine m_call (sDrawCalledLead_ok v code hl _ (h.ext hx13)) ?_
  rintro _ w4 hx4 ⟨nm, st, x, cs, p, q, c, rfl, ⟨ho4, hany⟩, hcc⟩
  simp only [↓vsd, vsn, gW, qd, qv, ev, pick, argE, zipE, ne_eq, eq_self, forall_const, implies_true, if_true, if_false, reduceIte, reduceCtorEq, Nat.reduceEqDiff, Nat.reduceAdd, Nat.reduceLT, ↓us_sDrawCallHead, r_sDrawCallHead]
  refine m_st (Blk.ext (Blk.ext hblk2 hx3) hx4) rfl (Nat.le_refl 3) (fM_one nm st x ho4.sq.one') ?_
  rintro w5 hblk5 hu5
  have hb5 : Blk w5 b2 (fM nm st x) 41 := hblk5
  simp only [↓vsd, vsn, gW, qd, qv, ev, pick, argE, zipE, ne_eq, eq_self, forall_const, implies_true, if_true, if_false, reduceIte, reduceCtorEq, Nat.reduceEqDiff, Nat.reduceAdd, Nat.reduceLT, ↓us_sDrawCallHead, r_sDrawCallHead]
  refine m_st (hu5.blk (Blk.ext hblk3 hx4) (by omega)) rfl (Nat.le_refl 2) (fQ_one p q) ?_
  rintro w6 hblk6 hu6
  have hb6 : Blk w6 b3 (fQ p q) 32 := hblk6
  have hb56 := hu6.blk hb5 (by omega)
  simp only [↓vsd, vsn, gW, qd, qv, ev, pick, argE, zipE, ne_eq, eq_self, forall_const, implies_true, if_true, if_false, reduceIte, reduceCtorEq, Nat.reduceEqDiff, Nat.reduceAdd, Nat.reduceLT, ↓us_sDrawCallHead, r_sDrawCallHead, hb56.facts, hb6.facts, fMg, fQg]
  have hsz := hx4.size
  exact ⟨hu6.below (hu5.below (hx13.trans hx4) (by omega)) (by omega), nm, st, x, cs, p, q, c, rfl, ⟨((ho4.upd hu5 (ho4.away' (by omega))).upd hu6 (ho4.away' (by omega))).mono hx13.size, hany⟩, hcc⟩
theorem resV_four (e : Env) (w : World) (o o' o'' o3 : XO) : resV e w [o, o', o'', o3] = .tuple ⟨[qv e w o, qv e w o', qv e w o'', qv e w o3]⟩ := rfl
/-- The same with two calls. -/
def AnyC2 (B : Nat) (r : Value) (w' : World) : Prop := ∃ nm st x cs p q c d, r = .tuple ⟨[mV nm st x, kV p q, S c, S d]⟩ ∧ AnyK B nm st x cs p q w' ∧ c.length ≤ 2 ∧ d.length ≤ 2
theorem sDrawSameLead_ok (v : Value) (code : List UInt8) (hl : code.length ≤ 1048576) (w : World) (h : Sq fU 1 w v code) : Fn 135 [v] w (fun r w' => AnyC2 w.heap.size r w') := by
  (refine callsV_of mix Try.func135 c_sDrawSameLead ?_; simp only [↓vsd, vsn, gW, qd, qv, ev, pick, argE, zipE, ne_eq, eq_self, forall_const, implies_true, if_true, if_false, reduceIte, reduceCtorEq, Nat.reduceEqDiff, Nat.reduceAdd, Nat.reduceLT, ↓us_sDrawSameLead, r_sDrawSameLead])
  refine m_al ?_
  rintro b2 w2 hb2 hblk2 hx2 hs2
  simp only [↓vsd, vsn, gW, qd, qv, ev, pick, argE, zipE, ne_eq, eq_self, forall_const, implies_true, if_true, if_false, reduceIte, reduceCtorEq, Nat.reduceEqDiff, Nat.reduceAdd, Nat.reduceLT, ↓us_sDrawSameLead, r_sDrawSameLead]
  refine m_al ?_
  rintro b3 w3 hb3 hblk3 hx3 hs3
  have hx13 := hx2.trans hx3
  simp only [↓vsd, vsn, gW, qd, qv, ev, pick, argE, zipE, ne_eq, eq_self, forall_const, implies_true, if_true, if_false, reduceIte, reduceCtorEq, Nat.reduceEqDiff, Nat.reduceAdd, Nat.reduceLT, ↓us_sDrawSameLead, r_sDrawSameLead]
  refine m_call (sDrawCalledLead_ok v code hl _ (h.ext hx13)) ?_
  rintro _ w4 hx4 ⟨nm, st, x, cs, p, q, c0, rfl, ⟨ho4, hany⟩, hc0⟩
  simp only [↓vsd, vsn, gW, qd, qv, ev, pick, argE, zipE, ne_eq, eq_self, forall_const, implies_true, if_true, if_false, reduceIte, reduceCtorEq, Nat.reduceEqDiff, Nat.reduceAdd, Nat.reduceLT, ↓us_sDrawSameLead, r_sDrawSameLead]
  refine m_al ?_
  rintro b5 w5 hb5 hblk5 hx5 hs5
  simp only [↓vsd, vsn, gW, qd, qv, ev, pick, argE, zipE, ne_eq, eq_self, forall_const, implies_true, if_true, if_false, reduceIte, reduceCtorEq, Nat.reduceEqDiff, Nat.reduceAdd, Nat.reduceLT, ↓us_sDrawSameLead, r_sDrawSameLead]
  refine m_al ?_
  rintro b6 w6 hb6 hblk6 hx6 hs6
  simp only [↓vsd, vsn, gW, qd, qv, ev, pick, argE, zipE, ne_eq, eq_self, forall_const, implies_true, if_true, if_false, reduceIte, reduceCtorEq, Nat.reduceEqDiff, Nat.reduceAdd, Nat.reduceLT, ↓us_sDrawSameLead, r_sDrawSameLead]
  refine m_st (Blk.ext hblk5 hx6) rfl (Nat.le_refl 3) (fM_one nm st x ho4.sq.one') ?_
  rintro w7 hblk7 hu7
  simp only [↓vsd, vsn, gW, qd, qv, ev, pick, argE, zipE, ne_eq, eq_self, forall_const, implies_true, if_true, if_false, reduceIte, reduceCtorEq, Nat.reduceEqDiff, Nat.reduceAdd, Nat.reduceLT, ↓us_sDrawSameLead, r_sDrawSameLead]
  refine m_st (hu7.blk hblk6 (by omega)) rfl (Nat.le_refl 2) (fQ_one p q) ?_
  rintro w8 hblk8 hu8
  have hm8 : Blk w8 b5 (fM nm st x) 41 := hu8.blk hblk7 (by omega)
  have hk8 : Blk w8 b6 (fQ p q) 32 := hblk8
  have h4s := hx4.size
  have ho8 := (((ho4.ext hx5).ext hx6).upd hu7 (ho4.away (by omega))).upd hu8 (ho4.away (by omega))
  have hF : Ext w3 w8 := hu8.below (hu7.below ((hx4.trans hx5).trans hx6) (by omega)) (by omega)
  have hq8 := (h.ext hx13).ext hF
  obtain ⟨htd, hqt⟩ := hq8.tail .i64 (code.length / 2) (by omega)
  simp only [↓vsd, vsn, gW, qd, qv, ev, pick, argE, zipE, ne_eq, eq_self, forall_const, implies_true, if_true, if_false, reduceIte, reduceCtorEq, Nat.reduceEqDiff, Nat.reduceAdd, Nat.reduceLT, ↓us_sDrawSameLead, r_sDrawSameLead, hq8.facts, htd, hqt.facts]
  refine ⟨⟨by decide, inR_i64 (by omega)⟩, m_al ?_⟩
  rintro bc w9 hbc hblk9 hx9 hs9
  have hc := Cur.new hqt (by rw [List.length_drop]; omega) hbc hblk9 hx9
  have hb2l := hblk2.lt
  have hF9 := hF.trans hx9
  have es : EK w w3.heap.size b2 b3 b5 b6 (fM [] 0 (.slice none 0 0)) (fQ [] []) (fM nm st x) (fQ p q) x cs w9 := ⟨(Blk.ext hblk2 hx3).ext hF9, Blk.ext hblk3 hF9, hm8.ext hx9, hk8.ext hx9, ho8.ext hx9, hx13.trans hF9, by omega⟩
  have hm8l := hm8.lt
  have hk8l := hk8.lt
  have hF8 := hF.size
  have haw : Away x bc := ho8.away (by omega)
  have hw3 := hx13.size
  simp only [↓vsd, vsn, gW, qd, qv, ev, pick, argE, zipE, ne_eq, eq_self, forall_const, implies_true, if_true, if_false, reduceIte, reduceCtorEq, Nat.reduceEqDiff, Nat.reduceAdd, Nat.reduceLT, ↓us_sDrawSameLead, r_sDrawSameLead, es.m.facts, es.k.facts, fMg, fQg]
  have es := es.ext (dr (Ext.refl _))
  have hc := hc.ext (dr (Ext.refl _))
  repeat' first
    | exact ⟨es.ex, nm, st, x, cs, p, q, c0, cc, rfl, ⟨es.own.mono (by omega), hany⟩, hc0, hcc⟩
    | refine ⟨?_, ?_⟩
    | (refine m_bsl (by simp [S]; repeat' constructor) ?_; rintro b8 _ hb8 hblk8 hx8 hs8; have hcl := hc.lt; have hb8c : bc < b8 := (by omega); replace es := es.ext hx8; replace hc := hc.ext hx8; clear hx8 hs8 hb8 hcl; simp only [↓vsd, vsn, gW, qd, qv, ev, pick, argE, zipE, ne_eq, eq_self, forall_const, implies_true, if_true, if_false, reduceIte, reduceCtorEq, Nat.reduceEqDiff, Nat.reduceAdd, Nat.reduceLT, ↓us_sDrawSameLead, r_sDrawSameLead, es.m.facts, es.k.facts, fMg, fQg])
    | (refine m_callw (.inr rfl) (sl1Cur_of_ok w8 bc _ _ [[112], [98], [115], [113]] _ (by omega) (by decide) hc (Sq.litC _ _ fS_len hblk8 rfl rfl hb8c)) ?_; rintro _ _ ⟨_, hg, cc, rfl, hcc'⟩; have hcc : cc.length ≤ 2 := (by simp only [List.mem_cons, List.not_mem_nil, or_false] at hcc'; rcases hcc' with rfl | rfl | rfl | rfl <;> decide); replace es := es.draw hg (by omega) haw; clear hc hg hcc' hblk8; simp only [↓vsd, vsn, gW, qd, qv, ev, pick, argE, zipE, ne_eq, eq_self, forall_const, implies_true, if_true, if_false, reduceIte, reduceCtorEq, Nat.reduceEqDiff, Nat.reduceAdd, Nat.reduceLT, ↓us_sDrawSameLead, r_sDrawSameLead, es.m.facts, es.k.facts, fMg, fQg])
    | (refine m_st es.r2 rfl (Nat.le_refl 3) (fM_one nm st x ho4.sq.one') ?_; rintro _ hb' hu; replace es := es.st2 hu (show Blk _ b2 (fM nm st x) _ from hb'); clear hb' hu; simp only [↓vsd, vsn, gW, qd, qv, ev, pick, argE, zipE, ne_eq, eq_self, forall_const, implies_true, if_true, if_false, reduceIte, reduceCtorEq, Nat.reduceEqDiff, Nat.reduceAdd, Nat.reduceLT, ↓us_sDrawSameLead, r_sDrawSameLead, es.m.facts, es.k.facts, fMg, fQg])
    | (refine m_st es.r3 rfl (Nat.le_refl 2) (fQ_one p q) ?_; rintro _ hb' hu; replace es := es.st3 hu (show Blk _ b3 (fQ p q) _ from hb'); clear hb' hu; simp only [↓vsd, vsn, gW, qd, qv, ev, pick, argE, zipE, ne_eq, eq_self, forall_const, implies_true, if_true, if_false, reduceIte, reduceCtorEq, Nat.reduceEqDiff, Nat.reduceAdd, Nat.reduceLT, ↓us_sDrawSameLead, r_sDrawSameLead, es.m.facts, es.k.facts, es.r2.facts, es.r3.facts, fMg, fQg, resV_four])
end Go.Proofs.Ytpnopboffalfnaa
