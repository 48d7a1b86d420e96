/-
  The call of the law FnWords.
  Conditions: none.
-/
import Derived.Test.YtnbnofmnbopknaaDoorD62
import Derived.Test.YtnbnofmnbopknaaDoorB4
import Derived.Test.YtnbnofmnbopknaaDoorPm
import Derived.Test.YtnbnofmnbopknaaDoorA16
import Derived.Test.YtnbnofmnbopknaaDoorA36
set_option linter.unusedSimpArgs false
set_option linter.unusedVariables false
set_option linter.defProp false
namespace Go.Proofs.YtnbnofmnbopknaaDoor
open Go Go.RowKit
section
variable (P : Program) (k : KT) (e : Env) (w : World)
abbrev b17_1 : X := (.seq (.reg [2] (.c (.q 3 [] (.mv (.t 0))) (.c (.e (some 4) [] (.call false 22 [(.t 3)])) (.c (.q 2 [] (.mv (.t 4))) .nil)))) .ret)
def t17_1 := b17_1
theorem u17_1 : vcK P t17_1 k e w = vcK P b17_1 k e w := rfl
abbrev b17_0 : X := (.seq (.reg [0] (.c (.q 2 [] (.mv (.c (.bool false)))) .nil)) t17_1)
def x_sGoodTouch := b17_0
theorem u17_0 : vcK P x_sGoodTouch k e w = vcK P b17_0 k e w := rfl
def r_sGoodTouch : List XO := [(.mv (.t 2))]
theorem c_sGoodTouch : convF Tryd.prog [27, 28, 29, 30, 32, 36, 40, 45, 46, 47, 50, 51, 52, 61, 62, 98] Tryd.f17 [([0], []), ([2], [])] = some (x_sGoodTouch, r_sGoodTouch) := by kernel_rfl
def us_sGoodTouch :=  (aI @u17_0 @u17_1)
abbrev b3_1 : X := (.cond (.t 34) (.seq (.reg [4] (.c (.q 4 [] (.mv (.c (.bool true)))) .nil)) .ret) .skip)
def t3_1 := b3_1
theorem u3_1 : vcK P t3_1 k e w = vcK P b3_1 k e w := rfl
abbrev b3_2 : X := (.cond (.t 130) (.seq (.reg [4] (.c (.q 4 [] (.mv (.c (.bool false)))) .nil)) .ret) .skip)
def t3_2 := b3_2
theorem u3_2 : vcK P t3_2 k e w = vcK P b3_2 k e w := rfl
abbrev b3_3 : X := (.cond (.t 165) (.seq (.reg [4] (.c (.q 4 [] (.mv (.c (.bool false)))) .nil)) .ret) .skip)
def t3_3 := b3_3
theorem u3_3 : vcK P t3_3 k e w = vcK P b3_3 k e w := rfl
abbrev b3_4 : X := (.seq (.reg [6, 7, 165] (.c (.q 142 [] (.mv (.t 24))) (.c (.q 143 [] (.not (.t 142))) (.c (.q 144 [] (.mv (.t 143))) (.c (.q 145 [(144, false)] (.mv (.t 26))) (.c (.q 146 [(144, false)] (.not (.t 145))) (.c (.q 147 [] (.pick (.t 144) (.c (.bool true)) (.t 146))) (.c (.q 148 [] (.mv (.t 147))) (.c (.q 149 [(148, false)] (.mv (.t 23))) (.c (.q 150 [(148, false)] (.mv (.t 18))) (.c (.q 151 [(148, false)] (.bin .neq (.t 149) (.t 150))) (.c (.q 152 [] (.pick (.t 148) (.c (.bool true)) (.t 151))) (.c (.q 153 [] (.mv (.t 152))) (.c (.q 154 [(153, false)] (.mv (.t 25))) (.c (.q 155 [(153, false)] (.mv (.t 18))) (.c (.q 156 [(153, false)] (.bin .neq (.t 154) (.t 155))) (.c (.q 157 [] (.pick (.t 153) (.c (.bool true)) (.t 156))) (.c (.q 158 [] (.mv (.t 157))) (.c (.q 159 [(158, false)] (.mv (.t 19))) (.c (.q 160 [(158, false)] (.len (.t 159))) (.c (.q 161 [(158, false)] (.mv (.t 18))) (.c (.q 162 [(158, false)] (.len (.t 161))) (.c (.q 163 [(158, false)] (.bin .add (.t 162) (.c (.int .i64 3)))) (.c (.q 164 [(158, false)] (.bin .gtr (.t 160) (.t 163))) (.c (.q 165 [] (.pick (.t 158) (.c (.bool true)) (.t 164))) .nil))))))))))))))))))))))))) t3_3)
def t3_4 := b3_4
theorem u3_4 : vcK P t3_4 k e w = vcK P b3_4 k e w := rfl
abbrev b3_5 : X := (.seq (.reg [6, 7, 18, 19, 23, 24, 25, 26] (.c (.q 138 [] (.mv (.t 19))) (.c (.e (some 139) [] (.call false 5 [(.t 138)])) (.c (.q 137 [] (.mv (.t 139))) (.c (.q 140 [] (.ext 0 (.t 137))) (.c (.q 141 [] (.ext 1 (.t 137))) (.c (.q 25 [] (.mv (.t 140))) (.c (.q 26 [] (.mv (.t 141))) .nil)))))))) t3_4)
def t3_5 := b3_5
theorem u3_5 : vcK P t3_5 k e w = vcK P b3_5 k e w := rfl
abbrev b3_6 : X := (.cond (.t 131) (.seq (.reg [6, 7, 18, 19, 23, 24] (.c (.q 133 [] (.mv (.t 18))) (.c (.e (some 134) [] (.call false 5 [(.t 133)])) (.c (.q 132 [] (.mv (.t 134))) (.c (.q 135 [] (.ext 0 (.t 132))) (.c (.q 136 [] (.ext 1 (.t 132))) (.c (.q 23 [] (.mv (.t 135))) (.c (.q 24 [] (.mv (.t 136))) .nil)))))))) t3_5) .skip)
def t3_6 := b3_6
theorem u3_6 : vcK P t3_6 k e w = vcK P b3_6 k e w := rfl
abbrev b3_7 : X := (.seq (.reg [4] (.c (.q 179 [] (.mv (.t 28))) (.c (.q 180 [] (.mv (.t 179))) (.c (.q 181 [(180, true)] (.mv (.t 27))) (.c (.q 182 [(180, true)] (.mv (.t 6))) (.c (.q 183 [(180, true)] (.mv (.t 6))) (.c (.q 184 [(180, true)] (.bin .add (.t 182) (.t 183))) (.c (.q 185 [(180, true)] (.mv (.t 6))) (.c (.q 186 [(180, true)] (.bin .add (.t 184) (.t 185))) (.c (.q 187 [(180, true)] (.bin .eql (.t 181) (.t 186))) (.c (.q 188 [] (.pick (.t 180) (.t 187) (.c (.bool false)))) (.c (.q 189 [] (.mv (.t 188))) (.c (.q 190 [(189, true)] (.mv (.t 6))) (.c (.e (some 191) [(189, true)] (.call false 17 [(.t 190)])) (.c (.q 192 [] (.pick (.t 189) (.t 191) (.c (.bool false)))) (.c (.q 4 [] (.mv (.t 192))) .nil)))))))))))))))) .ret)
def t3_7 := b3_7
theorem u3_7 : vcK P t3_7 k e w = vcK P b3_7 k e w := rfl
abbrev b3_8 : X := (.cond (.t 171) (.seq (.reg [6, 27, 28] (.c (.q 173 [] (.mv (.t 6))) (.c (.q 174 [] (.bin .add (.s [65, 61]) (.t 173))) (.c (.q 175 [] (.bin .add (.t 174) (.s [59, 40, 65, 41, 51]))) (.c (.e (some 176) [] (.call false 5 [(.t 175)])) (.c (.q 172 [] (.mv (.t 176))) (.c (.q 177 [] (.ext 0 (.t 172))) (.c (.q 178 [] (.ext 1 (.t 172))) (.c (.q 27 [] (.mv (.t 177))) (.c (.q 28 [] (.mv (.t 178))) .nil)))))))))) t3_7) .skip)
def t3_8 := b3_8
theorem u3_8 : vcK P t3_8 k e w = vcK P b3_8 k e w := rfl
abbrev b3_9 : X := (.seq (.reg [4] (.c (.q 4 [] (.mv (.c (.bool true)))) .nil)) .ret)
def t3_9 := b3_9
theorem u3_9 : vcK P t3_9 k e w = vcK P b3_9 k e w := rfl
abbrev b3_10 : X := (.seq (.seq (.reg [6, 171] (.c (.q 166 [] (.mv (.t 7))) (.c (.q 167 [] (.mv (.t 166))) (.c (.q 168 [(167, true)] (.mv (.t 6))) (.c (.q 169 [(167, true)] (.len (.t 168))) (.c (.q 170 [(167, true)] (.bin .leq (.t 169) (.c (.int .i64 20)))) (.c (.q 171 [] (.pick (.t 167) (.t 170) (.c (.bool false)))) .nil))))))) t3_8) t3_9)
def t3_10 := b3_10
theorem u3_10 : vcK P t3_10 k e w = vcK P b3_10 k e w := rfl
abbrev b3_11 : X := (.seq (.seq (.reg [6, 7, 18, 19, 131] (.c (.q 131 [] (.mv (.t 20))) .nil)) t3_6) t3_10)
def t3_11 := b3_11
theorem u3_11 : vcK P t3_11 k e w = vcK P b3_11 k e w := rfl
abbrev b3_12 : X := (.seq (.seq (.reg [6, 7, 18, 19, 20, 130] (.c (.q 79 [] (.mv (.t 7))) (.c (.q 80 [] (.mv (.t 9))) (.c (.q 81 [] (.beq true (.t 79) (.t 80))) (.c (.q 82 [] (.mv (.t 81))) (.c (.q 83 [(82, false)] (.mv (.t 6))) (.c (.q 84 [(82, false)] (.mv (.t 8))) (.c (.q 85 [(82, false)] (.bin .neq (.t 83) (.t 84))) (.c (.q 86 [] (.pick (.t 82) (.c (.bool true)) (.t 85))) (.c (.q 87 [] (.mv (.t 86))) (.c (.q 88 [(87, false)] (.mv (.t 11))) (.c (.q 89 [(87, false)] (.mv (.t 13))) (.c (.q 90 [(87, false)] (.beq true (.t 88) (.t 89))) (.c (.q 91 [] (.pick (.t 87) (.c (.bool true)) (.t 90))) (.c (.q 92 [] (.mv (.t 91))) (.c (.q 93 [(92, false)] (.mv (.t 10))) (.c (.q 94 [(92, false)] (.mv (.t 12))) (.c (.e (some 95) [(92, false)] (.call false 14 [(.t 93), (.t 94)])) (.c (.q 96 [(92, false)] (.not (.t 95))) (.c (.q 97 [] (.pick (.t 92) (.c (.bool true)) (.t 96))) (.c (.q 98 [] (.mv (.t 97))) (.c (.q 99 [(98, false)] (.mv (.t 15))) (.c (.q 100 [(98, false)] (.mv (.t 17))) (.c (.q 101 [(98, false)] (.beq true (.t 99) (.t 100))) (.c (.q 102 [] (.pick (.t 98) (.c (.bool true)) (.t 101))) (.c (.q 103 [] (.mv (.t 102))) (.c (.q 104 [(103, false)] (.mv (.t 14))) (.c (.q 105 [(103, false)] (.mv (.t 16))) (.c (.q 106 [(103, false)] (.bin .neq (.t 104) (.t 105))) (.c (.q 107 [] (.pick (.t 103) (.c (.bool true)) (.t 106))) (.c (.q 108 [] (.mv (.t 107))) (.c (.q 109 [(108, false)] (.mv (.t 20))) (.c (.q 110 [(108, false)] (.mv (.t 22))) (.c (.q 111 [(108, false)] (.beq true (.t 109) (.t 110))) (.c (.q 112 [] (.pick (.t 108) (.c (.bool true)) (.t 111))) (.c (.q 113 [] (.mv (.t 112))) (.c (.q 114 [(113, false)] (.mv (.t 19))) (.c (.q 115 [(113, false)] (.mv (.t 21))) (.c (.q 116 [(113, false)] (.bin .neq (.t 114) (.t 115))) (.c (.q 117 [] (.pick (.t 113) (.c (.bool true)) (.t 116))) (.c (.q 118 [] (.mv (.t 117))) (.c (.q 119 [(118, false)] (.mv (.t 5))) (.c (.e (some 120) [(118, false)] (.call false 15 [(.t 119)])) (.c (.q 121 [(118, false)] (.mv (.t 5))) (.c (.e (some 122) [(118, false)] (.call false 16 [(.t 121)])) (.c (.q 123 [(118, false)] (.beq true (.t 120) (.t 122))) (.c (.q 124 [] (.pick (.t 118) (.c (.bool true)) (.t 123))) (.c (.q 125 [] (.mv (.t 124))) (.c (.q 126 [(125, false)] (.mv (.t 5))) (.c (.e (some 127) [(125, false)] (.call false 15 [(.t 126)])) (.c (.q 128 [(125, false)] (.mv (.t 11))) (.c (.q 129 [(125, false)] (.beq true (.t 127) (.t 128))) (.c (.q 130 [] (.pick (.t 125) (.c (.bool true)) (.t 129))) .nil))))))))))))))))))))))))))))))))))))))))))))))))))))) t3_2) t3_11)
def t3_12 := b3_12
theorem u3_12 : vcK P t3_12 k e w = vcK P b3_12 k e w := rfl
abbrev b3_13 : X := (.seq (.reg [5, 6, 7, 8, 9, 10, 11, 12, 13, 14, 15, 16, 17, 18, 19, 20, 21, 22] (.c (.q 75 [] (.mv (.t 18))) (.c (.e (some 76) [] (.call false 13 [(.t 75)])) (.c (.q 74 [] (.mv (.t 76))) (.c (.q 77 [] (.ext 0 (.t 74))) (.c (.q 78 [] (.ext 1 (.t 74))) (.c (.q 21 [] (.mv (.t 77))) (.c (.q 22 [] (.mv (.t 78))) .nil)))))))) t3_12)
def t3_13 := b3_13
theorem u3_13 : vcK P t3_13 k e w = vcK P b3_13 k e w := rfl
abbrev b3_14 : X := (.seq (.reg [5, 6, 7, 8, 9, 10, 11, 12, 13, 14, 15, 16, 17, 18, 19, 20] (.c (.q 70 [] (.mv (.t 18))) (.c (.e (some 71) [] (.call false 12 [(.t 70)])) (.c (.q 69 [] (.mv (.t 71))) (.c (.q 72 [] (.ext 0 (.t 69))) (.c (.q 73 [] (.ext 1 (.t 69))) (.c (.q 19 [] (.mv (.t 72))) (.c (.q 20 [] (.mv (.t 73))) .nil)))))))) t3_13)
def t3_14 := b3_14
theorem u3_14 : vcK P t3_14 k e w = vcK P b3_14 k e w := rfl
abbrev b3_15 : X := (.seq (.reg [5, 6, 7, 8, 9, 10, 11, 12, 13, 14, 15, 16, 17, 18] (.c (.q 67 [] (.mv (.t 1))) (.c (.e (some 68) [] (.call false 11 [(.t 67)])) (.c (.q 18 [] (.mv (.t 68))) .nil)))) t3_14)
def t3_15 := b3_15
theorem u3_15 : vcK P t3_15 k e w = vcK P b3_15 k e w := rfl
abbrev b3_16 : X := (.seq (.reg [1, 5, 6, 7, 8, 9, 10, 11, 12, 13, 14, 15, 16, 17] (.c (.q 63 [] (.mv (.t 5))) (.c (.e (some 64) [] (.call false 10 [(.t 63)])) (.c (.q 62 [] (.mv (.t 64))) (.c (.q 65 [] (.ext 0 (.t 62))) (.c (.q 66 [] (.ext 1 (.t 62))) (.c (.q 16 [] (.mv (.t 65))) (.c (.q 17 [] (.mv (.t 66))) .nil)))))))) t3_15)
def t3_16 := b3_16
theorem u3_16 : vcK P t3_16 k e w = vcK P b3_16 k e w := rfl
abbrev b3_17 : X := (.seq (.reg [1, 5, 6, 7, 8, 9, 10, 11, 12, 13, 14, 15] (.c (.q 58 [] (.mv (.t 5))) (.c (.e (some 59) [] (.call false 9 [(.t 58)])) (.c (.q 57 [] (.mv (.t 59))) (.c (.q 60 [] (.ext 0 (.t 57))) (.c (.q 61 [] (.ext 1 (.t 57))) (.c (.q 14 [] (.mv (.t 60))) (.c (.q 15 [] (.mv (.t 61))) .nil)))))))) t3_16)
def t3_17 := b3_17
theorem u3_17 : vcK P t3_17 k e w = vcK P b3_17 k e w := rfl
abbrev b3_18 : X := (.seq (.reg [1, 5, 6, 7, 8, 9, 10, 11, 12, 13] (.c (.q 53 [] (.mv (.t 5))) (.c (.e (some 54) [] (.call false 8 [(.t 53)])) (.c (.q 52 [] (.mv (.t 54))) (.c (.q 55 [] (.ext 0 (.t 52))) (.c (.q 56 [] (.ext 1 (.t 52))) (.c (.q 12 [] (.mv (.t 55))) (.c (.q 13 [] (.mv (.t 56))) .nil)))))))) t3_17)
def t3_18 := b3_18
theorem u3_18 : vcK P t3_18 k e w = vcK P b3_18 k e w := rfl
abbrev b3_19 : X := (.seq (.reg [1, 5, 6, 7, 8, 9, 10, 11] (.c (.q 48 [] (.mv (.t 5))) (.c (.e (some 49) [] (.call false 7 [(.t 48)])) (.c (.q 47 [] (.mv (.t 49))) (.c (.q 50 [] (.ext 0 (.t 47))) (.c (.q 51 [] (.ext 1 (.t 47))) (.c (.q 10 [] (.mv (.t 50))) (.c (.q 11 [] (.mv (.t 51))) .nil)))))))) t3_18)
def t3_19 := b3_19
theorem u3_19 : vcK P t3_19 k e w = vcK P b3_19 k e w := rfl
abbrev b3_20 : X := (.seq (.reg [1, 5, 6, 7, 8, 9] (.c (.q 43 [] (.mv (.t 5))) (.c (.e (some 44) [] (.call false 6 [(.t 43)])) (.c (.q 42 [] (.mv (.t 44))) (.c (.q 45 [] (.ext 0 (.t 42))) (.c (.q 46 [] (.ext 1 (.t 42))) (.c (.q 8 [] (.mv (.t 45))) (.c (.q 9 [] (.mv (.t 46))) .nil)))))))) t3_19)
def t3_20 := b3_20
theorem u3_20 : vcK P t3_20 k e w = vcK P b3_20 k e w := rfl
abbrev b3_21 : X := (.seq (.reg [1, 5, 6, 7] (.c (.q 38 [] (.mv (.t 5))) (.c (.e (some 39) [] (.call false 5 [(.t 38)])) (.c (.q 37 [] (.mv (.t 39))) (.c (.q 40 [] (.ext 0 (.t 37))) (.c (.q 41 [] (.ext 1 (.t 37))) (.c (.q 6 [] (.mv (.t 40))) (.c (.q 7 [] (.mv (.t 41))) .nil)))))))) t3_20)
def t3_21 := b3_21
theorem u3_21 : vcK P t3_21 k e w = vcK P b3_21 k e w := rfl
abbrev b3_22 : X := (.seq (.reg [1, 5] (.c (.q 35 [] (.mv (.t 0))) (.c (.e (some 36) [] (.call false 4 [(.t 35)])) (.c (.q 5 [] (.mv (.t 36))) .nil)))) t3_21)
def t3_22 := b3_22
theorem u3_22 : vcK P t3_22 k e w = vcK P b3_22 k e w := rfl
abbrev b3_23 : X := (.seq (.seq (.reg [0, 1, 34] (.c (.q 29 [] (.mv (.t 0))) (.c (.q 30 [] (.lens (.t 29))) (.c (.q 31 [] (.mv (.t 1))) (.c (.q 32 [] (.lens (.t 31))) (.c (.q 33 [] (.bin .add (.t 30) (.t 32))) (.c (.q 34 [] (.bin .gtr (.t 33) (.c (.int .i64 1048576)))) .nil))))))) t3_1) t3_22)
def t3_23 := b3_23
theorem u3_23 : vcK P t3_23 k e w = vcK P b3_23 k e w := rfl
abbrev b3_0 : X := (.seq (.reg [0, 1] (.c (.q 4 [] (.mv (.c (.bool false)))) .nil)) t3_23)
def x_lFnWords := b3_0
theorem u3_0 : vcK P x_lFnWords k e w = vcK P b3_0 k e w := rfl
def r_lFnWords : List XO := [(.mv (.t 4))]
theorem c_lFnWords : convF Tryd.prog [27, 28, 29, 30, 32, 36, 40, 45, 46, 47, 50, 51, 52, 61, 62, 98] Tryd.f3 [([0, 1], []), ([0, 1, 34], []), ([4], []), ([1, 5], []), ([1, 5, 6, 7], []), ([1, 5, 6, 7, 8, 9], []), ([1, 5, 6, 7, 8, 9, 10, 11], []), ([1, 5, 6, 7, 8, 9, 10, 11, 12, 13], []), ([1, 5, 6, 7, 8, 9, 10, 11, 12, 13, 14, 15], []), ([1, 5, 6, 7, 8, 9, 10, 11, 12, 13, 14, 15, 16, 17], []), ([5, 6, 7, 8, 9, 10, 11, 12, 13, 14, 15, 16, 17, 18], []), ([5, 6, 7, 8, 9, 10, 11, 12, 13, 14, 15, 16, 17, 18, 19, 20], []), ([5, 6, 7, 8, 9, 10, 11, 12, 13, 14, 15, 16, 17, 18, 19, 20, 21, 22], []), ([6, 7, 18, 19, 20, 130], []), ([4], []), ([6, 7, 18, 19, 131], []), ([6, 7, 18, 19, 23, 24], []), ([6, 7, 18, 19, 23, 24, 25, 26], []), ([6, 7, 165], []), ([4], []), ([6, 171], []), ([6, 27, 28], []), ([4], []), ([4], [])] = some (x_lFnWords, r_lFnWords) := by kernel_rfl
def us_lFnWords :=  (aI (aI (aI (aI @u3_0 (aI @u3_1 @u3_2)) (aI @u3_3 (aI @u3_4 @u3_5))) (aI (aI @u3_6 (aI @u3_7 @u3_8)) (aI @u3_9 (aI @u3_10 @u3_11)))) (aI (aI (aI @u3_12 (aI @u3_13 @u3_14)) (aI @u3_15 (aI @u3_16 @u3_17))) (aI (aI @u3_18 (aI @u3_19 @u3_20)) (aI @u3_21 (aI @u3_22 @u3_23)))))
end

def cwV (s : List UInt8) : Value := match progL s with | none => .tuple ⟨[S [], .bool false]⟩ | some p => if IsTouch p.1 then .tuple ⟨[S p.1, .bool true]⟩ else .tuple ⟨[S [], .bool false]⟩
theorem iCW_ok (s : List UInt8) (hs : s.length ≤ 1048576) (w : World) : Fn 5 [S s] w (fun r _ => r = cwV s) := (iCompileWords_ok s hs w).mono fun _ _ h => h
theorem sCW_ok (s : List UInt8) (hs : s.length ≤ 1048576) (w : World) : Fn 6 [S s] w (fun r _ => r = cwV s) := (sCompileWords_ok s hs w).mono fun _ _ h => h
theorem cw_cases (s : List UInt8) : (∃ t, cwV s = .tuple ⟨[S t, .bool true]⟩ ∧ IsTouch t ∧ (progL s).isSome = true) ∨ cwV s = .tuple ⟨[S [], .bool false]⟩ := by
  unfold cwV
  cases progL s with
  | none => exact .inr rfl
  | some p =>
    by_cases h : IsTouch p.1
    · exact .inl ⟨p.1, by simp only [if_pos h], h, rfl⟩
    · exact .inr (by simp only [if_neg h])
theorem cw_gen (s : List UInt8) : ∃ (t : List UInt8) (K : Bool), cwV s = .tuple ⟨[S t, .bool K]⟩ ∧ (K = true → IsTouch t) := by
  rcases cw_cases s with ⟨t, h, ht, _⟩ | h
  · exact ⟨t, true, h, fun _ => ht⟩
  · exact ⟨[], false, h, fun hh => by cases hh⟩
theorem cw_of {s t : List UInt8} {kn : List (UInt8 × List UInt8)} {m : Nat} (h : progL s = some (t, kn, m)) (ht : IsTouch t) : cwV s = .tuple ⟨[S t, .bool true]⟩ := by
  unfold cwV; rw [h]; simp only [if_pos ht]
theorem tch_calls {t : List UInt8} (h : IsTouch t) : CallsL t := fun c hc => h.2 c hc
theorem prt_means {u : List UInt8} {n : Nat} (hu : IsTouch u) (hn : LeastP u n) : cwV (prtP u n) = .tuple ⟨[S u, .bool true]⟩ ∧ (prtP u n).length ≤ u.length + 3 := by
  have hu1 := hu.1
  unfold prtP
  split
  · exact ⟨cw_of (prog_touch (tch_calls hu) hu1.1 hu1.2) hu, by omega⟩
  · rename_i hc
    have htl : (u.take n).length = n := by rw [List.length_take]; have := hn.1; omega
    obtain ⟨m, hm⟩ := prog_part (v := u.take n) (c := u.length / n) (fun c hc => tch_calls hu c (List.mem_of_mem_take hc)) (by have := hn.1; omega) (by have := hn.1; omega) (by omega)
    have e : (Lib.repeatL (u.take n) (u.length / n)).take 61 = u := by
      rw [repeat_rep, hn.2.1.2]
      exact List.take_of_length_le (by omega)
    rw [e] at hm
    refine ⟨cw_of hm hu, ?_⟩
    simp only [List.length_append, List.length_singleton, htl]
    have := hn.1
    omega
def nmL (s : List UInt8) : List (List UInt8) := match progL s with | none => [] | some p => namesL p.2.1
def dpV (s : List UInt8) : Value := match progL s with | none => .tuple ⟨[.int .i64 0, .bool false]⟩ | some p => .tuple ⟨[.int .i64 (p.2.2 : Nat), .bool true]⟩
theorem iDP_ok (s : List UInt8) (hs : s.length ≤ 1048576) (w : World) : Fn 9 [S s] w (fun r _ => r = dpV s) := (iDepthOf_ok s hs w).mono fun _ _ h => h
theorem sDP_ok (s : List UInt8) (hs : s.length ≤ 1048576) (w : World) : Fn 10 [S s] w (fun r _ => r = dpV s) := (sDepthOf_ok s hs w).mono fun _ _ h => h
theorem iNM_ok (s : List UInt8) (hs : s.length ≤ 1048576) (w : World) : Fn 7 [S s] w (fun r w' => ∃ x, r = .tuple ⟨[x, .bool (progL s).isSome]⟩ ∧ Own fS 1 9 w.heap.size w' x (nmL s) ∧ (nmL s).length ≤ 1000) := (iNamesIn_ok s hs w).mono fun _ _ ⟨x, e, ho, hl⟩ => ⟨x, e, ho.to (show _ = nmL s from rfl), by
  cases hp : progL s with
  | none => rw [nmL, hp]; simp
  | some p => have := hl p hp; rw [nmL, hp]; simpa [namesL] using this⟩
theorem sNM_ok (s : List UInt8) (hs : s.length ≤ 1048576) (w : World) : Fn 8 [S s] w (fun r w' => ∃ x, r = .tuple ⟨[x, .bool (progL s).isSome]⟩ ∧ Own fS 1 9 w.heap.size w' x (nmL s)) := (sNamesIn_ok s hs w).mono fun _ _ ⟨x, e, ho⟩ => ⟨x, e, ho.to (show _ = nmL s from rfl)⟩
theorem dp_is (s : List UInt8) : ∃ d : Nat, dpV s = .tuple ⟨[.int .i64 d, .bool (progL s).isSome]⟩ := by
  unfold dpV
  cases progL s with
  | none => exact ⟨0, rfl⟩
  | some p => exact ⟨p.2.2, rfl⟩
theorem sGoodTouch_okw (l : List UInt8) (hl : l.length ≤ 1000000000) (w : World) : Fn 17 [S l] w (fun r _ => r = .bool (decide (IsTouch l))) := by
  (refine callsV_of mix Tryd.func17 c_sGoodTouch ?_; simp only [↓vsd, vsn, gW, qd, qv, ev, pick, argE, zipE, ne_eq, eq_self, forall_const, implies_true, if_true, if_false, reduceIte, reduceCtorEq, Nat.reduceEqDiff, Nat.reduceAdd, Nat.reduceLT, ↓us_sGoodTouch, r_sGoodTouch])
  refine m_call (sl9Good_ok l hl _) ?_
  rintro _ w1 hx1 rfl
  simp only [↓vsd, vsn, gW, qd, qv, ev, pick, argE, zipE, ne_eq, eq_self, forall_const, implies_true, if_true, if_false, reduceIte, reduceCtorEq, Nat.reduceEqDiff, Nat.reduceAdd, Nat.reduceLT, ↓us_sGoodTouch, r_sGoodTouch]
  exact hx1
theorem touch_three {t : List UInt8} (h : IsTouch t) (h20 : t.length ≤ 20) : IsTouch (t ++ t ++ t) := by
  refine ⟨by have := h.1; simp only [List.length_append]; omega, fun c hc => h.2 c ?_⟩
  simpa using hc
set_option maxHeartbeats 4000000 in
theorem lFnWords_ok (v u : Value) (code more : List UInt8) (hcl : code.length ≤ 140737488355328) (hml : more.length ≤ 140737488355328) (w : World) (h : Sq fU 1 w v code) (h' : Sq fU 1 w u more) : Fn 3 [v, u] w (fun r _ => r = .bool true) := by
  (refine callsV_of mix Tryd.func3 c_lFnWords ?_; simp only [↓vsd, vsn, gW, qd, qv, ev, pick, argE, zipE, ne_eq, eq_self, forall_const, implies_true, if_true, if_false, reduceIte, reduceCtorEq, Nat.reduceEqDiff, Nat.reduceAdd, Nat.reduceLT, ↓us_lFnWords, r_lFnWords])
  simp only [↓vsd, vsn, gW, qd, qv, ev, pick, argE, zipE, ne_eq, eq_self, forall_const, implies_true, if_true, if_false, reduceIte, reduceCtorEq, Nat.reduceEqDiff, Nat.reduceAdd, Nat.reduceLT, ↓us_lFnWords, r_lFnWords, h.facts, h'.facts]
  refine ⟨inR_i64 (by omega), fun _ => Ext.refl _, fun hsm => ?_⟩
  have hlen : code.length ≤ 1048576 ∧ more.length ≤ 1048576 := by omega
  refine m_call (sDrawCompileWords_ok v code hlen.1 _ h) ?_
  rintro _ w1 hx1 ⟨s, rfl, hs⟩
  simp only [↓vsd, vsn, gW, qd, qv, ev, pick, argE, zipE, ne_eq, eq_self, forall_const, implies_true, if_true, if_false, reduceIte, reduceCtorEq, Nat.reduceEqDiff, Nat.reduceAdd, Nat.reduceLT, ↓us_lFnWords, r_lFnWords]
  obtain ⟨t, K, hcw, ht⟩ := cw_gen s
  refine m_call (iCW_ok s (by omega) _) ?_
  rintro _ w2 hx2 hr2
  rw [hcw] at hr2
  subst hr2
  simp only [↓vsd, vsn, gW, qd, qv, ev, pick, argE, zipE, ne_eq, eq_self, forall_const, implies_true, if_true, if_false, reduceIte, reduceCtorEq, Nat.reduceEqDiff, Nat.reduceAdd, Nat.reduceLT, ↓us_lFnWords, r_lFnWords]
  refine m_call (sCW_ok s (by omega) _) ?_
  rintro _ w3 hx3 hr3
  rw [hcw] at hr3
  subst hr3
  simp only [↓vsd, vsn, gW, qd, qv, ev, pick, argE, zipE, ne_eq, eq_self, forall_const, implies_true, if_true, if_false, reduceIte, reduceCtorEq, Nat.reduceEqDiff, Nat.reduceAdd, Nat.reduceLT, ↓us_lFnWords, r_lFnWords]
  refine m_call (iNM_ok s (by omega) _) ?_
  rintro _ w4 hx4 ⟨x4, rfl, ho4, hnl⟩
  simp only [↓vsd, vsn, gW, qd, qv, ev, pick, argE, zipE, ne_eq, eq_self, forall_const, implies_true, if_true, if_false, reduceIte, reduceCtorEq, Nat.reduceEqDiff, Nat.reduceAdd, Nat.reduceLT, ↓us_lFnWords, r_lFnWords]
  refine m_call (sNM_ok s (by omega) _) ?_
  rintro _ w5 hx5 ⟨x5, rfl, ho5⟩
  generalize nmL s = NL at *
  obtain ⟨d, hd⟩ := dp_is s
  simp only [↓vsd, vsn, gW, qd, qv, ev, pick, argE, zipE, ne_eq, eq_self, forall_const, implies_true, if_true, if_false, reduceIte, reduceCtorEq, Nat.reduceEqDiff, Nat.reduceAdd, Nat.reduceLT, ↓us_lFnWords, r_lFnWords]
  refine m_call (iDP_ok s (by omega) _) ?_
  rintro _ w6 hx6 hr6
  rw [hd] at hr6
  subst hr6
  simp only [↓vsd, vsn, gW, qd, qv, ev, pick, argE, zipE, ne_eq, eq_self, forall_const, implies_true, if_true, if_false, reduceIte, reduceCtorEq, Nat.reduceEqDiff, Nat.reduceAdd, Nat.reduceLT, ↓us_lFnWords, r_lFnWords]
  refine m_call (sDP_ok s (by omega) _) ?_
  rintro _ w7 hx7 hr7
  rw [hd] at hr7
  subst hr7
  have hx17 := (((((hx1.trans hx2).trans hx3).trans hx4).trans hx5).trans hx6).trans hx7
  simp only [↓vsd, vsn, gW, qd, qv, ev, pick, argE, zipE, ne_eq, eq_self, forall_const, implies_true, if_true, if_false, reduceIte, reduceCtorEq, Nat.reduceEqDiff, Nat.reduceAdd, Nat.reduceLT, ↓us_lFnWords, r_lFnWords]
  refine m_call (sDrawPrintParts_ok u more hlen.2 _ (h'.ext hx17)) ?_
  rintro _ w8 hx8 ⟨q, rfl, hq61⟩
  obtain ⟨n, hn⟩ : ∃ n, IsTouch q → LeastP q n := by
    by_cases hq : IsTouch q
    · obtain ⟨n, hn⟩ := leastP_ex (t := q) (by have := hq.1; omega)
      exact ⟨n, fun _ => hn⟩
    · exact ⟨0, fun hh => absurd hh hq⟩
  simp only [↓vsd, vsn, gW, qd, qv, ev, pick, argE, zipE, ne_eq, eq_self, forall_const, implies_true, if_true, if_false, reduceIte, reduceCtorEq, Nat.reduceEqDiff, Nat.reduceAdd, Nat.reduceLT, ↓us_lFnWords, r_lFnWords]
  refine m_call (iPrintParts_ok q n (by omega) hn _) ?_
  rintro _ w9 hx9 hr9
  by_cases hq : IsTouch q
  · have hp : prtV q n = .tuple ⟨[S (prtP q n), .bool true]⟩ := by rw [prtV, if_pos hq]
    obtain ⟨hpm, hpl⟩ := prt_means hq (hn hq)
    have hqm : cwV q = .tuple ⟨[S q, .bool true]⟩ := cw_of (prog_touch (tch_calls hq) hq.1.1 hq.1.2) hq
    rw [hp] at hr9
    subst hr9
    simp only [↓vsd, vsn, gW, qd, qv, ev, pick, argE, zipE, ne_eq, eq_self, forall_const, implies_true, if_true, if_false, reduceIte, reduceCtorEq, Nat.reduceEqDiff, Nat.reduceAdd, Nat.reduceLT, ↓us_lFnWords, r_lFnWords]
    refine m_call (sPrintParts_ok q n (by omega) hn _) ?_
    rintro _ w10 hx10 hr10
    rw [hp] at hr10
    subst hr10
    have hx610 := ((((hx6.trans hx7).trans hx8).trans hx9)).trans hx10
    have hx510 := hx5.trans hx610
    have hx010 := ((hx17.trans hx8).trans hx9).trans hx10
    simp only [↓vsd, vsn, gW, qd, qv, ev, pick, argE, zipE, ne_eq, eq_self, forall_const, implies_true, if_true, if_false, reduceIte, reduceCtorEq, Nat.reduceEqDiff, Nat.reduceAdd, Nat.reduceLT, ↓us_lFnWords, r_lFnWords]
    refine m_call (lqSameS_ok x4 x5 NL NL _ (ho4.sq.ext hx510) (ho5.sq.ext hx610) (by omega)) ?_
    rintro _ w11 hx11 rfl
    simp only [↓vsd, vsn, gW, qd, qv, ev, pick, argE, zipE, ne_eq, eq_self, forall_const, implies_true, if_true, if_false, reduceIte, reduceCtorEq, Nat.reduceEqDiff, Nat.reduceAdd, Nat.reduceLT, ↓us_lFnWords, r_lFnWords]
    refine m_call (iIsWords_ok s (by omega) _) ?_
    rintro _ w12 hx12 rfl
    simp only [↓vsd, vsn, gW, qd, qv, ev, pick, argE, zipE, ne_eq, eq_self, forall_const, implies_true, if_true, if_false, reduceIte, reduceCtorEq, Nat.reduceEqDiff, Nat.reduceAdd, Nat.reduceLT, ↓us_lFnWords, r_lFnWords]
    refine m_call (sIsWords_ok s (by omega) _) ?_
    rintro _ w13 hx13 rfl
    simp only [↓vsd, vsn, gW, qd, qv, ev, pick, argE, zipE, ne_eq, eq_self, forall_const, implies_true, if_true, if_false, reduceIte, reduceCtorEq, Nat.reduceEqDiff, Nat.reduceAdd, Nat.reduceLT, ↓us_lFnWords, r_lFnWords]
    refine m_call (iIsWords_ok s (by omega) _) ?_
    rintro _ w14 hx14 rfl
    have hx1014 := ((hx11.trans hx12).trans hx13).trans hx14
    simp only [↓vsd, vsn, gW, qd, qv, ev, pick, argE, zipE, ne_eq, eq_self, forall_const, implies_true, if_true, if_false, reduceIte, reduceCtorEq, Nat.reduceEqDiff, Nat.reduceAdd, Nat.reduceLT, ↓us_lFnWords, r_lFnWords]
    refine m_call (iCW_ok q (by omega) _) ?_
    rintro _ w15 hx15 hr15
    rw [hqm] at hr15
    subst hr15
    simp only [↓vsd, vsn, gW, qd, qv, ev, pick, argE, zipE, ne_eq, eq_self, forall_const, implies_true, if_true, if_false, reduceIte, reduceCtorEq, Nat.reduceEqDiff, Nat.reduceAdd, Nat.reduceLT, ↓us_lFnWords, r_lFnWords]
    refine m_call (iCW_ok (prtP q n) (by omega) _) ?_
    rintro _ w16 hx16 hr16
    rw [hpm] at hr16
    subst hr16
    have hxE := ((hx010.trans hx1014).trans hx15).trans hx16
    have hplI : ¬ ((q.length : Nat) : Int) + 3 < (prtP q n).length := by omega
    simp only [↓vsd, vsn, gW, qd, qv, ev, pick, argE, zipE, ne_eq, eq_self, forall_const, implies_true, if_true, if_false, reduceIte, reduceCtorEq, Nat.reduceEqDiff, Nat.reduceAdd, Nat.reduceLT, ↓us_lFnWords, r_lFnWords, hplI]
    refine ⟨inR_i64 (by omega), fun ⟨hK, h20⟩ => ⟨by omega, by omega, ?_⟩, fun _ => hxE⟩
    have ht := ht hK
    have h20n : t.length ≤ 20 := by omega
    obtain ⟨kn, m, hpd⟩ := prog_def (tch_calls ht) ht.1.1 h20n
    have hcd : cwV (65 :: 61 :: (t ++ [59, 40, 65, 41, 51])) = .tuple ⟨[S (t ++ t ++ t), .bool true]⟩ := by
      have e : (65 :: 61 :: (t ++ [59, 40, 65, 41, 51]) : List UInt8) = [65, 61] ++ t ++ [59, 40, 65, 41, 51] := by simp
      rw [e]; exact cw_of hpd (touch_three ht h20n)
    refine m_call (iCW_ok (65 :: 61 :: (t ++ [59, 40, 65, 41, 51])) (by simp; omega) _) ?_
    rintro _ wa hxa hra
    rw [hcd] at hra
    subst hra
    simp only [↓vsd, vsn, gW, qd, qv, ev, pick, argE, zipE, ne_eq, eq_self, forall_const, implies_true, if_true, if_false, reduceIte, reduceCtorEq, Nat.reduceEqDiff, Nat.reduceAdd, Nat.reduceLT, ↓us_lFnWords, r_lFnWords]
    refine ⟨by omega, by rw [List.length_append]; omega, m_call (sGoodTouch_okw t (by omega) _) ?_⟩
    rintro _ wb hxb rfl
    have htd := decide_eq_true ht
    simp only [↓vsd, vsn, gW, qd, qv, ev, pick, argE, zipE, ne_eq, eq_self, forall_const, implies_true, if_true, if_false, reduceIte, reduceCtorEq, Nat.reduceEqDiff, Nat.reduceAdd, Nat.reduceLT, ↓us_lFnWords, r_lFnWords, htd]
    exact (hxE.trans hxa).trans hxb
  · have hp : prtV q n = .tuple ⟨[S [], .bool false]⟩ := by rw [prtV, if_neg hq]
    rw [hp] at hr9
    subst hr9
    simp only [↓vsd, vsn, gW, qd, qv, ev, pick, argE, zipE, ne_eq, eq_self, forall_const, implies_true, if_true, if_false, reduceIte, reduceCtorEq, Nat.reduceEqDiff, Nat.reduceAdd, Nat.reduceLT, ↓us_lFnWords, r_lFnWords]
    refine m_call (sPrintParts_ok q n (by omega) hn _) ?_
    rintro _ w10 hx10 hr10
    rw [hp] at hr10
    subst hr10
    have hx610 := ((((hx6.trans hx7).trans hx8).trans hx9)).trans hx10
    have hx510 := hx5.trans hx610
    have hx010 := ((hx17.trans hx8).trans hx9).trans hx10
    simp only [↓vsd, vsn, gW, qd, qv, ev, pick, argE, zipE, ne_eq, eq_self, forall_const, implies_true, if_true, if_false, reduceIte, reduceCtorEq, Nat.reduceEqDiff, Nat.reduceAdd, Nat.reduceLT, ↓us_lFnWords, r_lFnWords]
    refine m_call (lqSameS_ok x4 x5 NL NL _ (ho4.sq.ext hx510) (ho5.sq.ext hx610) (by omega)) ?_
    rintro _ w11 hx11 rfl
    simp only [↓vsd, vsn, gW, qd, qv, ev, pick, argE, zipE, ne_eq, eq_self, forall_const, implies_true, if_true, if_false, reduceIte, reduceCtorEq, Nat.reduceEqDiff, Nat.reduceAdd, Nat.reduceLT, ↓us_lFnWords, r_lFnWords]
    refine m_call (iIsWords_ok s (by omega) _) ?_
    rintro _ w12 hx12 rfl
    simp only [↓vsd, vsn, gW, qd, qv, ev, pick, argE, zipE, ne_eq, eq_self, forall_const, implies_true, if_true, if_false, reduceIte, reduceCtorEq, Nat.reduceEqDiff, Nat.reduceAdd, Nat.reduceLT, ↓us_lFnWords, r_lFnWords]
    refine m_call (sIsWords_ok s (by omega) _) ?_
    rintro _ w13 hx13 rfl
    simp only [↓vsd, vsn, gW, qd, qv, ev, pick, argE, zipE, ne_eq, eq_self, forall_const, implies_true, if_true, if_false, reduceIte, reduceCtorEq, Nat.reduceEqDiff, Nat.reduceAdd, Nat.reduceLT, ↓us_lFnWords, r_lFnWords]
    refine m_call (iIsWords_ok s (by omega) _) ?_
    rintro _ w14 hx14 rfl
    have hx1014 := ((hx11.trans hx12).trans hx13).trans hx14
    simp only [↓vsd, vsn, gW, qd, qv, ev, pick, argE, zipE, ne_eq, eq_self, forall_const, implies_true, if_true, if_false, reduceIte, reduceCtorEq, Nat.reduceEqDiff, Nat.reduceAdd, Nat.reduceLT, ↓us_lFnWords, r_lFnWords]
    have hxE := hx010.trans hx1014
    refine ⟨fun ⟨hK, h20⟩ => ⟨by omega, by omega, ?_⟩, fun _ => hxE⟩
    have ht := ht hK
    have h20n : t.length ≤ 20 := by omega
    obtain ⟨kn, m, hpd⟩ := prog_def (tch_calls ht) ht.1.1 h20n
    have hcd : cwV (65 :: 61 :: (t ++ [59, 40, 65, 41, 51])) = .tuple ⟨[S (t ++ t ++ t), .bool true]⟩ := by
      have e : (65 :: 61 :: (t ++ [59, 40, 65, 41, 51]) : List UInt8) = [65, 61] ++ t ++ [59, 40, 65, 41, 51] := by simp
      rw [e]; exact cw_of hpd (touch_three ht h20n)
    refine m_call (iCW_ok (65 :: 61 :: (t ++ [59, 40, 65, 41, 51])) (by simp; omega) _) ?_
    rintro _ wa hxa hra
    rw [hcd] at hra
    subst hra
    simp only [↓vsd, vsn, gW, qd, qv, ev, pick, argE, zipE, ne_eq, eq_self, forall_const, implies_true, if_true, if_false, reduceIte, reduceCtorEq, Nat.reduceEqDiff, Nat.reduceAdd, Nat.reduceLT, ↓us_lFnWords, r_lFnWords]
    refine ⟨by omega, by rw [List.length_append]; omega, m_call (sGoodTouch_okw t (by omega) _) ?_⟩
    rintro _ wb hxb rfl
    have htd := decide_eq_true ht
    simp only [↓vsd, vsn, gW, qd, qv, ev, pick, argE, zipE, ne_eq, eq_self, forall_const, implies_true, if_true, if_false, reduceIte, reduceCtorEq, Nat.reduceEqDiff, Nat.reduceAdd, Nat.reduceLT, ↓us_lFnWords, r_lFnWords, htd]
    exact (hxE.trans hxa).trans hxb
end Go.Proofs.YtnbnofmnbopknaaDoor
