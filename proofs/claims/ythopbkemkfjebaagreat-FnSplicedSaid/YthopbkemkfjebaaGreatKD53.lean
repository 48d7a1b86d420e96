/-
  The law FnSpliced.
  Conditions: none.
-/
import Derived.Test.YthopbkemkfjebaaGreatKA36
import Derived.Test.YthopbkemkfjebaaGreatKA88
import Derived.Test.YthopbkemkfjebaaGreatKA91
import Derived.Test.YthopbkemkfjebaaGreatKD52
set_option linter.unusedSimpArgs false
set_option linter.unusedVariables false
set_option linter.defProp false
namespace Go.Proofs.YthopbkemkfjebaaGreat
open Go Go.RowKit
section
variable (P : Program) (k : KT) (e : Env) (w : World)
abbrev b5_1 : X := (.cond (.t 38) (.seq (.reg [4] (.c (.q 4 [] (.mv (.c (.bool true)))) .nil)) .ret) .skip)
def t5_1 := b5_1
theorem u5_1 : vcK P t5_1 k e w = vcK P b5_1 k e w := rfl
abbrev b5_2 : X := (.cond (.t 155) (.seq (.reg [4] (.c (.q 4 [] (.mv (.c (.bool false)))) .nil)) .ret) .skip)
def t5_2 := b5_2
theorem u5_2 : vcK P t5_2 k e w = vcK P b5_2 k e w := rfl
abbrev b5_3 : X := (.cond (.t 179) (.seq (.reg [4] (.c (.q 4 [] (.mv (.c (.bool false)))) .nil)) .ret) .skip)
def t5_3 := b5_3
theorem u5_3 : vcK P t5_3 k e w = vcK P b5_3 k e w := rfl
abbrev b5_4 : X := (.seq (.reg [8, 9, 12, 13, 179] (.c (.q 169 [] (.mv (.t 28))) (.c (.q 170 [] (.not (.t 169))) (.c (.q 171 [] (.mv (.t 170))) (.c (.q 172 [(171, false)] (.mv (.t 30))) (.c (.q 173 [(171, false)] (.not (.t 172))) (.c (.q 174 [] (.pick (.t 171) (.c (.bool true)) (.t 173))) (.c (.q 175 [] (.mv (.t 174))) (.c (.q 176 [(175, false)] (.mv (.t 29))) (.c (.q 177 [(175, false)] (.mv (.t 23))) (.c (.q 178 [(175, false)] (.beq true (.t 176) (.t 177))) (.c (.q 179 [] (.pick (.t 175) (.c (.bool true)) (.t 178))) .nil)))))))))))) t5_3)
def t5_4 := b5_4
theorem u5_4 : vcK P t5_4 k e w = vcK P b5_4 k e w := rfl
abbrev b5_5 : X := (.seq (.reg [8, 9, 12, 13, 23, 28, 29, 30] (.c (.q 163 [] (.lda 3 (.t 21))) (.c (.q 164 [] (.lda 3 (.t 20))) (.c (.q 165 [] (.mv (.t 27))) (.c (.e (some 166) [] (.call false 41 [(.t 163), (.t 164), (.t 165)])) (.c (.q 162 [] (.mv (.t 166))) (.c (.q 167 [] (.ext 0 (.t 162))) (.c (.q 168 [] (.ext 1 (.t 162))) (.c (.q 29 [] (.mv (.t 167))) (.c (.q 30 [] (.mv (.t 168))) .nil)))))))))) t5_4)
def t5_5 := b5_5
theorem u5_5 : vcK P t5_5 k e w = vcK P b5_5 k e w := rfl
abbrev b5_6 : X := (.cond (.t 156) (.seq (.reg [8, 9, 12, 13, 20, 21, 23, 27, 28] (.c (.q 158 [] (.mv (.t 22))) (.c (.e (some 159) [] (.call false 45 [(.t 158)])) (.c (.q 157 [] (.mv (.t 159))) (.c (.q 160 [] (.ext 0 (.t 157))) (.c (.q 161 [] (.ext 1 (.t 157))) (.c (.q 27 [] (.mv (.t 160))) (.c (.q 28 [] (.mv (.t 161))) .nil)))))))) t5_5) .skip)
def t5_6 := b5_6
theorem u5_6 : vcK P t5_6 k e w = vcK P b5_6 k e w := rfl
abbrev b5_7 : X := (.cond (.t 185) (.seq (.reg [4] (.c (.q 4 [] (.mv (.c (.bool true)))) .nil)) .ret) .skip)
def t5_7 := b5_7
theorem u5_7 : vcK P t5_7 k e w = vcK P b5_7 k e w := rfl
abbrev b5_8 : X := (.seq (.reg [4] (.c (.q 191 [] (.mv (.t 32))) (.c (.q 192 [] (.mv (.t 191))) (.c (.q 193 [(192, true)] (.mv (.t 31))) (.c (.q 194 [(192, true)] (.mv (.t 8))) (.c (.q 195 [(192, true)] (.beq false (.t 193) (.t 194))) (.c (.q 196 [] (.pick (.t 192) (.t 195) (.c (.bool false)))) (.c (.q 4 [] (.mv (.t 196))) .nil)))))))) .ret)
def t5_8 := b5_8
theorem u5_8 : vcK P t5_8 k e w = vcK P b5_8 k e w := rfl
abbrev b5_9 : X := (.seq (.reg [8, 31, 32] (.c (.q 187 [] (.mv (.t 12))) (.c (.e (some 188) [] (.call false 18 [(.t 187)])) (.c (.q 186 [] (.mv (.t 188))) (.c (.q 189 [] (.ext 0 (.t 186))) (.c (.q 190 [] (.ext 1 (.t 186))) (.c (.q 31 [] (.mv (.t 189))) (.c (.q 32 [] (.mv (.t 190))) .nil)))))))) t5_8)
def t5_9 := b5_9
theorem u5_9 : vcK P t5_9 k e w = vcK P b5_9 k e w := rfl
abbrev b5_10 : X := (.seq (.seq (.reg [8, 12, 185] (.c (.q 180 [] (.mv (.t 9))) (.c (.q 181 [] (.not (.t 180))) (.c (.q 182 [] (.mv (.t 181))) (.c (.q 183 [(182, false)] (.mv (.t 13))) (.c (.q 184 [(182, false)] (.not (.t 183))) (.c (.q 185 [] (.pick (.t 182) (.c (.bool true)) (.t 184))) .nil))))))) t5_7) t5_9)
def t5_10 := b5_10
theorem u5_10 : vcK P t5_10 k e w = vcK P b5_10 k e w := rfl
abbrev b5_11 : X := (.seq (.seq (.reg [8, 9, 12, 13, 20, 21, 22, 23, 156] (.c (.q 156 [] (.mv (.t 24))) .nil)) t5_6) t5_10)
def t5_11 := b5_11
theorem u5_11 : vcK P t5_11 k e w = vcK P b5_11 k e w := rfl
abbrev b5_12 : X := (.seq (.seq (.drw [8, 9, 12, 13, 20, 21, 22, 23, 24, 155] (.c (.q 107 [] (.mv (.t 9))) (.c (.q 108 [] (.mv (.t 11))) (.c (.q 109 [] (.beq true (.t 107) (.t 108))) (.c (.q 110 [] (.mv (.t 109))) (.c (.q 111 [(110, false)] (.mv (.t 8))) (.c (.q 112 [(110, false)] (.mv (.t 10))) (.c (.q 113 [(110, false)] (.beq true (.t 111) (.t 112))) (.c (.q 114 [] (.pick (.t 110) (.c (.bool true)) (.t 113))) (.c (.q 115 [] (.mv (.t 114))) (.c (.q 116 [(115, false)] (.mv (.t 13))) (.c (.q 117 [(115, false)] (.mv (.t 15))) (.c (.q 118 [(115, false)] (.beq true (.t 116) (.t 117))) (.c (.q 119 [] (.pick (.t 115) (.c (.bool true)) (.t 118))) (.c (.q 120 [] (.mv (.t 119))) (.c (.q 121 [(120, false)] (.mv (.t 12))) (.c (.q 122 [(120, false)] (.mv (.t 14))) (.c (.e (some 123) [(120, false)] (.call false 34 [(.t 121), (.t 122)])) (.c (.q 124 [(120, false)] (.not (.t 123))) (.c (.q 125 [] (.pick (.t 120) (.c (.bool true)) (.t 124))) (.c (.q 126 [] (.mv (.t 125))) (.c (.q 127 [(126, false)] (.mv (.t 17))) (.c (.q 128 [(126, false)] (.mv (.t 19))) (.c (.q 129 [(126, false)] (.beq true (.t 127) (.t 128))) (.c (.q 130 [] (.pick (.t 126) (.c (.bool true)) (.t 129))) (.c (.q 131 [] (.mv (.t 130))) (.c (.q 132 [(131, false)] (.mv (.t 16))) (.c (.q 133 [(131, false)] (.mv (.t 18))) (.c (.e (some 134) [(131, false)] (.call false 34 [(.t 132), (.t 133)])) (.c (.q 135 [(131, false)] (.not (.t 134))) (.c (.q 136 [] (.pick (.t 131) (.c (.bool true)) (.t 135))) (.c (.q 137 [] (.mv (.t 136))) (.c (.q 138 [(137, false)] (.mv (.t 24))) (.c (.q 139 [(137, false)] (.mv (.t 26))) (.c (.q 140 [(137, false)] (.beq true (.t 138) (.t 139))) (.c (.q 141 [] (.pick (.t 137) (.c (.bool true)) (.t 140))) (.c (.q 142 [] (.mv (.t 141))) (.c (.q 143 [(142, false)] (.mv (.t 23))) (.c (.q 144 [(142, false)] (.mv (.t 25))) (.c (.q 145 [(142, false)] (.beq true (.t 143) (.t 144))) (.c (.q 146 [] (.pick (.t 142) (.c (.bool true)) (.t 145))) (.c (.q 147 [] (.mv (.t 146))) (.c (.q 148 [(147, false)] (.mv (.t 5))) (.c (.q 149 [(147, false)] (.lda 2 (.t 6))) (.c (.q 151 [(147, false)] (.mv (.t 5))) (.c (.q 152 [(147, false)] (.lda 2 (.t 6))) (.c (.e (some 150) [(147, false)] (.call false 43 [(.t 148), (.t 149)])) (.c (.e (some 153) [(147, false)] (.call false 44 [(.t 151), (.t 152)])) (.c (.q 154 [(147, false)] (.beq true (.t 150) (.t 153))) (.c (.q 155 [] (.pick (.t 147) (.c (.bool true)) (.t 154))) .nil)))))))))))))))))))))))))))))))))))))))))))))))))) t5_2) t5_11)
def t5_12 := b5_12
theorem u5_12 : vcK P t5_12 k e w = vcK P b5_12 k e w := rfl
abbrev b5_13 : X := (.seq (.reg [5, 6, 8, 9, 10, 11, 12, 13, 14, 15, 16, 17, 18, 19, 20, 21, 22, 23, 24, 25, 26] (.c (.q 101 [] (.lda 3 (.t 20))) (.c (.q 102 [] (.lda 3 (.t 21))) (.c (.q 103 [] (.mv (.t 22))) (.c (.e (some 104) [] (.call false 42 [(.t 101), (.t 102), (.t 103)])) (.c (.q 100 [] (.mv (.t 104))) (.c (.q 105 [] (.ext 0 (.t 100))) (.c (.q 106 [] (.ext 1 (.t 100))) (.c (.q 25 [] (.mv (.t 105))) (.c (.q 26 [] (.mv (.t 106))) .nil)))))))))) t5_12)
def t5_13 := b5_13
theorem u5_13 : vcK P t5_13 k e w = vcK P b5_13 k e w := rfl
abbrev b5_14 : X := (.seq (.reg [5, 6, 8, 9, 10, 11, 12, 13, 14, 15, 16, 17, 18, 19, 20, 21, 22, 23, 24] (.c (.q 94 [] (.lda 3 (.t 20))) (.c (.q 95 [] (.lda 3 (.t 21))) (.c (.q 96 [] (.mv (.t 22))) (.c (.e (some 97) [] (.call false 41 [(.t 94), (.t 95), (.t 96)])) (.c (.q 93 [] (.mv (.t 97))) (.c (.q 98 [] (.ext 0 (.t 93))) (.c (.q 99 [] (.ext 1 (.t 93))) (.c (.q 23 [] (.mv (.t 98))) (.c (.q 24 [] (.mv (.t 99))) .nil)))))))))) t5_13)
def t5_14 := b5_14
theorem u5_14 : vcK P t5_14 k e w = vcK P b5_14 k e w := rfl
abbrev b5_15 : X := (.seq (.reg [5, 6, 8, 9, 10, 11, 12, 13, 14, 15, 16, 17, 18, 19, 20, 21, 22] (.c (.q 88 [] (.mv (.t 1))) (.c (.e (some 89) [] (.call false 40 [(.t 88)])) (.c (.q 87 [] (.mv (.t 89))) (.c (.q 90 [] (.ext 0 (.t 87))) (.c (.q 91 [] (.ext 1 (.t 87))) (.c (.q 92 [] (.ext 2 (.t 87))) (.c (.e (some 20) [] (.al 25 [(S []), (.int .i64 0), (.slice none 0 0)])) (.c (.e (some 21) [] (.al 25 [(S []), (.int .i64 0), (.slice none 0 0)])) (.c (.e none [] (.st 3 (.t 20) (.t 90))) (.c (.e none [] (.st 3 (.t 21) (.t 91))) (.c (.q 22 [] (.mv (.t 92))) .nil)))))))))))) t5_14)
def t5_15 := b5_15
theorem u5_15 : vcK P t5_15 k e w = vcK P b5_15 k e w := rfl
abbrev b5_16 : X := (.seq (.reg [1, 5, 6, 8, 9, 10, 11, 12, 13, 14, 15, 16, 17, 18, 19] (.c (.q 81 [] (.mv (.t 5))) (.c (.q 82 [] (.lda 2 (.t 6))) (.c (.q 83 [] (.mv (.t 7))) (.c (.e (some 84) [] (.call false 39 [(.t 81), (.t 82), (.t 83)])) (.c (.q 80 [] (.mv (.t 84))) (.c (.q 85 [] (.ext 0 (.t 80))) (.c (.q 86 [] (.ext 1 (.t 80))) (.c (.q 18 [] (.mv (.t 85))) (.c (.q 19 [] (.mv (.t 86))) .nil)))))))))) t5_15)
def t5_16 := b5_16
theorem u5_16 : vcK P t5_16 k e w = vcK P b5_16 k e w := rfl
abbrev b5_17 : X := (.seq (.reg [1, 5, 6, 7, 8, 9, 10, 11, 12, 13, 14, 15, 16, 17] (.c (.q 74 [] (.mv (.t 5))) (.c (.q 75 [] (.lda 2 (.t 6))) (.c (.q 76 [] (.mv (.t 7))) (.c (.e (some 77) [] (.call false 31 [(.t 74), (.t 75), (.t 76)])) (.c (.q 73 [] (.mv (.t 77))) (.c (.q 78 [] (.ext 0 (.t 73))) (.c (.q 79 [] (.ext 1 (.t 73))) (.c (.q 16 [] (.mv (.t 78))) (.c (.q 17 [] (.mv (.t 79))) .nil)))))))))) t5_16)
def t5_17 := b5_17
theorem u5_17 : vcK P t5_17 k e w = vcK P b5_17 k e w := rfl
abbrev b5_18 : X := (.seq (.reg [1, 5, 6, 7, 8, 9, 10, 11, 12, 13, 14, 15] (.c (.q 67 [] (.mv (.t 5))) (.c (.q 68 [] (.lda 2 (.t 6))) (.c (.q 69 [] (.mv (.t 7))) (.c (.e (some 70) [] (.call false 38 [(.t 67), (.t 68), (.t 69)])) (.c (.q 66 [] (.mv (.t 70))) (.c (.q 71 [] (.ext 0 (.t 66))) (.c (.q 72 [] (.ext 1 (.t 66))) (.c (.q 14 [] (.mv (.t 71))) (.c (.q 15 [] (.mv (.t 72))) .nil)))))))))) t5_17)
def t5_18 := b5_18
theorem u5_18 : vcK P t5_18 k e w = vcK P b5_18 k e w := rfl
abbrev b5_19 : X := (.seq (.reg [1, 5, 6, 7, 8, 9, 10, 11, 12, 13] (.c (.q 60 [] (.mv (.t 5))) (.c (.q 61 [] (.lda 2 (.t 6))) (.c (.q 62 [] (.mv (.t 7))) (.c (.e (some 63) [] (.call false 37 [(.t 60), (.t 61), (.t 62)])) (.c (.q 59 [] (.mv (.t 63))) (.c (.q 64 [] (.ext 0 (.t 59))) (.c (.q 65 [] (.ext 1 (.t 59))) (.c (.q 12 [] (.mv (.t 64))) (.c (.q 13 [] (.mv (.t 65))) .nil)))))))))) t5_18)
def t5_19 := b5_19
theorem u5_19 : vcK P t5_19 k e w = vcK P b5_19 k e w := rfl
abbrev b5_20 : X := (.seq (.reg [1, 5, 6, 7, 8, 9, 10, 11] (.c (.q 53 [] (.mv (.t 5))) (.c (.q 54 [] (.lda 2 (.t 6))) (.c (.q 55 [] (.mv (.t 7))) (.c (.e (some 56) [] (.call false 36 [(.t 53), (.t 54), (.t 55)])) (.c (.q 52 [] (.mv (.t 56))) (.c (.q 57 [] (.ext 0 (.t 52))) (.c (.q 58 [] (.ext 1 (.t 52))) (.c (.q 10 [] (.mv (.t 57))) (.c (.q 11 [] (.mv (.t 58))) .nil)))))))))) t5_19)
def t5_20 := b5_20
theorem u5_20 : vcK P t5_20 k e w = vcK P b5_20 k e w := rfl
abbrev b5_21 : X := (.seq (.reg [1, 5, 6, 7, 8, 9] (.c (.q 46 [] (.mv (.t 5))) (.c (.q 47 [] (.lda 2 (.t 6))) (.c (.q 48 [] (.mv (.t 7))) (.c (.e (some 49) [] (.call false 33 [(.t 46), (.t 47), (.t 48)])) (.c (.q 45 [] (.mv (.t 49))) (.c (.q 50 [] (.ext 0 (.t 45))) (.c (.q 51 [] (.ext 1 (.t 45))) (.c (.q 8 [] (.mv (.t 50))) (.c (.q 9 [] (.mv (.t 51))) .nil)))))))))) t5_20)
def t5_21 := b5_21
theorem u5_21 : vcK P t5_21 k e w = vcK P b5_21 k e w := rfl
abbrev b5_22 : X := (.seq (.reg [1, 5, 6, 7] (.c (.q 40 [] (.mv (.t 0))) (.c (.e (some 41) [] (.call false 35 [(.t 40)])) (.c (.q 39 [] (.mv (.t 41))) (.c (.q 42 [] (.ext 0 (.t 39))) (.c (.q 43 [] (.ext 1 (.t 39))) (.c (.q 44 [] (.ext 2 (.t 39))) (.c (.e (some 6) [] (.al 27 [(S []), (S [])])) (.c (.q 5 [] (.mv (.t 42))) (.c (.e none [] (.st 2 (.t 6) (.t 43))) (.c (.q 7 [] (.mv (.t 44))) .nil))))))))))) t5_21)
def t5_22 := b5_22
theorem u5_22 : vcK P t5_22 k e w = vcK P b5_22 k e w := rfl
abbrev b5_23 : X := (.seq (.seq (.reg [0, 1, 38] (.c (.q 33 [] (.mv (.t 0))) (.c (.q 34 [] (.lens (.t 33))) (.c (.q 35 [] (.mv (.t 1))) (.c (.q 36 [] (.lens (.t 35))) (.c (.q 37 [] (.bin .add (.t 34) (.t 36))) (.c (.q 38 [] (.bin .gtr (.t 37) (.c (.int .i64 1048576)))) .nil))))))) t5_1) t5_22)
def t5_23 := b5_23
theorem u5_23 : vcK P t5_23 k e w = vcK P b5_23 k e w := rfl
abbrev b5_0 : X := (.seq (.reg [0, 1] (.c (.q 4 [] (.mv (.c (.bool false)))) .nil)) t5_23)
def x_lFnSpliced := b5_0
theorem u5_0 : vcK P x_lFnSpliced k e w = vcK P b5_0 k e w := rfl
def r_lFnSpliced : List XO := [(.mv (.t 4))]
theorem c_lFnSpliced : convF Tryz.prog [56, 58, 59, 60, 61, 62, 72, 73, 77, 97, 98, 109, 110, 111, 112, 115, 128, 136] Tryz.f5 [([0, 1], []), ([0, 1, 38], []), ([4], []), ([1, 5, 6, 7], []), ([1, 5, 6, 7, 8, 9], []), ([1, 5, 6, 7, 8, 9, 10, 11], []), ([1, 5, 6, 7, 8, 9, 10, 11, 12, 13], []), ([1, 5, 6, 7, 8, 9, 10, 11, 12, 13, 14, 15], []), ([1, 5, 6, 7, 8, 9, 10, 11, 12, 13, 14, 15, 16, 17], []), ([1, 5, 6, 8, 9, 10, 11, 12, 13, 14, 15, 16, 17, 18, 19], []), ([5, 6, 8, 9, 10, 11, 12, 13, 14, 15, 16, 17, 18, 19, 20, 21, 22], []), ([5, 6, 8, 9, 10, 11, 12, 13, 14, 15, 16, 17, 18, 19, 20, 21, 22, 23, 24], []), ([5, 6, 8, 9, 10, 11, 12, 13, 14, 15, 16, 17, 18, 19, 20, 21, 22, 23, 24, 25, 26], []), ([8, 9, 12, 13, 20, 21, 22, 23, 24, 155], []), ([4], []), ([8, 9, 12, 13, 20, 21, 22, 23, 156], []), ([8, 9, 12, 13, 20, 21, 23, 27, 28], []), ([8, 9, 12, 13, 23, 28, 29, 30], []), ([8, 9, 12, 13, 179], []), ([4], []), ([8, 12, 185], []), ([4], []), ([8, 31, 32], []), ([4], [])] = some (x_lFnSpliced, r_lFnSpliced) := by kernel_rfl
def us_lFnSpliced :=  (aI (aI (aI (aI @u5_0 (aI @u5_1 @u5_2)) (aI @u5_3 (aI @u5_4 @u5_5))) (aI (aI @u5_6 (aI @u5_7 @u5_8)) (aI @u5_9 (aI @u5_10 @u5_11)))) (aI (aI (aI @u5_12 (aI @u5_13 @u5_14)) (aI @u5_15 (aI @u5_16 @u5_17))) (aI (aI @u5_18 (aI @u5_19 @u5_20)) (aI @u5_21 (aI @u5_22 @u5_23)))))
end
/-- The turned row leads back. -/
theorem false_turn {n : Nat} {A B : List Bs} (hA : ∀ r ∈ A, IsRow r ∧ r.length = n) (hB : ∀ r ∈ B, IsRow r ∧ r.length = n) {f : Bs} (hf : IsRow f) (lf : f.length = n) : turnL f ∈ falseL B A ↔ f ∈ falseL A B := by
  have ht := turnL_row hf
  have lt : (turnL f).length = n := by rw [turnL_len, lf]
  rw [meet_iff hB hA ht lt, meet_iff hA hB hf lf]
  constructor
  · rintro ⟨s, hs, h⟩
    obtain ⟨r, hr, e⟩ := List.mem_map.1 h
    refine ⟨r, hr, List.mem_map.2 ⟨s, hs, ?_⟩⟩
    have h1 := hA r hr
    rw [← e, ← timesL_assoc f h1.1 (by rw [lt, h1.2]), times_turn hf, lf, ← h1.2]
    exact rounds_times h1.1
  · rintro ⟨r, hr, h⟩
    obtain ⟨s, hs, e⟩ := List.mem_map.1 h
    refine ⟨s, hs, List.mem_map.2 ⟨r, hr, ?_⟩⟩
    have h1 := hB s hs
    rw [← e, ← timesL_assoc _ h1.1 (by rw [lf, h1.2]), turn_times hf, lf, ← h1.2]
    exact rounds_times h1.1
theorem lead_nodup {n : Nat} (h38 : 3 ≤ n ∧ n ≤ 8) (cs : List Bs) {h : Bs} (hr : IsRow h) (hl : h.length = n) : (rowsU h cs cs.length).Nodup ↔ (leadR n cs).Nodup := by
  have hL := leadR_rows h38 cs
  have e : rowsU h cs cs.length = (leadR n cs).map (timesL h) := by rw [rowsU_times hr, hl]; rfl
  rw [e]
  constructor
  · intro hp
    unfold List.Nodup at hp ⊢
    rw [List.pairwise_map] at hp
    exact hp.imp fun hne e => hne (by rw [e])
  · exact fun hp => map_nodup hp fun a ha b hb e => times_cancel hr (hL a ha).1 (hL b hb).1 (by rw [hl, (hL a ha).2]) (by rw [hl, (hL b hb).2]) e
theorem leads_apart {n : Nat} (h38 : 3 ≤ n ∧ n ≤ 8) (ca cb : List Bs) {g h : Bs} (hg : IsRow g) (lg : g.length = n) (hh : IsRow h) (lh : h.length = n) : (∀ x ∈ rowsU g ca ca.length, ∀ y ∈ rowsU h cb cb.length, x ≠ y) ↔ timesL (turnL g) h ∉ falseL (leadR n ca) (leadR n cb) := by
  have hA := leadR_rows h38 ca
  have hB := leadR_rows h38 cb
  have ea : rowsU g ca ca.length = (leadR n ca).map (timesL g) := by rw [rowsU_times hg, lg]; rfl
  have eb : rowsU h cb cb.length = (leadR n cb).map (timesL h) := by rw [rowsU_times hh, lh]; rfl
  rw [ea, eb, falseL_mem]
  constructor
  · rintro hne ⟨r, h1, s, h2, e⟩
    exact hne _ (List.mem_map.2 ⟨r, h1, rfl⟩) _ (List.mem_map.2 ⟨s, h2, rfl⟩) ((quot_iff hg hh (hA r h1).1 (hB s h2).1 lg lh (hA r h1).2 (hB s h2).2).1 e)
  · intro hne x hx y hy e
    obtain ⟨r, h1, rfl⟩ := List.mem_map.1 hx
    obtain ⟨s, h2, rfl⟩ := List.mem_map.1 hy
    exact hne ⟨r, h1, s, h2, (quot_iff hg hh (hA r h1).1 (hB s h2).1 lg lh (hA r h1).2 (hB s h2).2).2 e⟩
/-- The rows of a splice hold no row twice just when it is true by its heads. -/
theorem spl_truth {ms : List MS} {css : List (List Bs)} {b s t : Bs} {n : Nat} (hS : SplOk ms css b s t) (hn : (ms.getD 0 MS.nil).st = n) (h8 : 3 ≤ n ∧ n ≤ 8) : ∀ k, k ≤ t.length / 2 → ((rwsS n css b s t k).Nodup ↔ TrueS n css b s t k) := by
  intro k
  induction k with
  | zero => intro _; exact ⟨fun _ i hi => absurd hi (Nat.not_lt_zero i), fun _ => by simp [rwsS]⟩
  | succ k ih =>
    intro hk
    have ih := ih (by omega)
    have hrk := hdS_row hS hn h8 k (by omega)
    rw [rwsS_succ, List.nodup_append, ih]
    have e1 : (rwS n css b s t k).Nodup ↔ (leadR n (css.getD (mA t k) [])).Nodup := lead_nodup h8 _ hrk.1 hrk.2
    have e2 : (∀ a ∈ rwsS n css b s t k, ∀ c ∈ rwS n css b s t k, a ≠ c) ↔ ∀ j < k, timesL (turnL (hdS n css b s t j)) (hdS n css b s t k) ∉ falseL (leadR n (css.getD (mA t j) [])) (leadR n (css.getD (mA t k) [])) := by
      constructor
      · intro h j hj
        have hrj := hdS_row hS hn h8 j (by omega)
        exact (leads_apart h8 _ _ hrj.1 hrj.2 hrk.1 hrk.2).1 fun x hx y hy => h x (List.mem_flatMap.2 ⟨j, List.mem_range.2 hj, hx⟩) y hy
      · intro h x hx y hy
        obtain ⟨j, hj, hx⟩ := List.mem_flatMap.1 hx
        have hj := List.mem_range.1 hj
        have hrj := hdS_row hS hn h8 j (by omega)
        exact (leads_apart h8 _ _ hrj.1 hrj.2 hrk.1 hrk.2).2 (h j hj) x hx y hy
    rw [e1, e2]
    constructor
    · rintro ⟨h1, h2, h3⟩ i hi
      by_cases he : i = k
      · subst he; exact ⟨h2, h3⟩
      · exact h1 i (by omega)
    · intro h
      exact ⟨fun i hi => h i (by omega), (h k (by omega)).1, (h k (by omega)).2⟩
theorem AnyMs.small {ms : List MS} {css : List (List Bs)} (h : AnyMs ms css) : MSmall ms css := ⟨Nat.le_trans h.1 (by decide), fun i hi => by
  obtain ⟨h1, h2, h3⟩ := h.2 i hi
  exact ⟨by omega, by omega, fun c hc => by have := h3 c hc; omega⟩⟩
theorem spl_rows {ms : List MS} {css : List (List Bs)} {b s t : Bs} {n : Nat} (hS : SplOk ms css b s t) (hn : (ms.getD 0 MS.nil).st = n) (h8 : 3 ≤ n ∧ n ≤ 8) : ∀ r ∈ rwsS n css b s t (t.length / 2), IsRow r ∧ r.length = n := fun r hr => by
  obtain ⟨j, hj, hx⟩ := List.mem_flatMap.1 hr
  have hj := List.mem_range.1 hj
  have hrj := hdS_row hS hn h8 j (by omega)
  obtain ⟨i, _, rfl⟩ := List.mem_map.1 hx
  exact ⟨underL_row _ hrj.1, by rw [underL_len]; exact hrj.2⟩
set_option maxHeartbeats 4000000 in
theorem lFnSpliced_ok (v u : Value) (code more : List UInt8) (hcl : code.length ≤ 140737488355328) (hml : more.length ≤ 140737488355328) (w : World) (h : Sq fU 1 w v code) (h' : Sq fU 1 w u more) : Fn 5 [v, u] w (fun r _ => r = .bool true) := by
  (refine callsV_of mix Tryz.func5 c_lFnSpliced ?_; simp only [↓vsd, vsn, gW, qd, qv, ev, pick, argE, zipE, ne_eq, eq_self, forall_const, implies_true, if_true, if_false, reduceIte, reduceCtorEq, Nat.reduceEqDiff, Nat.reduceAdd, Nat.reduceLT, ↓us_lFnSpliced, r_lFnSpliced])
  simp only [↓vsd, vsn, gW, qd, qv, ev, pick, argE, zipE, ne_eq, eq_self, forall_const, implies_true, if_true, if_false, reduceIte, reduceCtorEq, Nat.reduceEqDiff, Nat.reduceAdd, Nat.reduceLT, ↓us_lFnSpliced, r_lFnSpliced, h.facts, h'.facts]
  refine ⟨inR_i64 (by omega), fun _ => Ext.refl _, fun hsm => ?_⟩
  have hlen : code.length ≤ 1048576 ∧ more.length ≤ 1048576 := by omega
  refine m_call (sDrawTrueSplice_ok v code hlen.1 _ h) ?_
  rintro _ w1 hx1 ⟨y, b, s, t, ms, css, rfl, hM1, hA, hb, hs, ht⟩
  have hsm := hA.small
  have hbs' : b.length ≤ 1048576 ∧ s.length ≤ 1048576 := by omega
  have ht' : t.length ≤ 1048576 := by omega
  simp only [↓vsd, vsn, gW, qd, qv, ev, pick, argE, zipE, ne_eq, eq_self, forall_const, implies_true, if_true, if_false, reduceIte, reduceCtorEq, Nat.reduceEqDiff, Nat.reduceAdd, Nat.reduceLT, ↓us_lFnSpliced, r_lFnSpliced]
  refine m_al ?_
  rintro bk w2 hbk hblk2 hx2 hs2
  simp only [↓vsd, vsn, gW, qd, qv, ev, pick, argE, zipE, ne_eq, eq_self, forall_const, implies_true, if_true, if_false, reduceIte, reduceCtorEq, Nat.reduceEqDiff, Nat.reduceAdd, Nat.reduceLT, ↓us_lFnSpliced, r_lFnSpliced]
  refine m_st hblk2 rfl (Nat.le_refl 2) (fQ_one b s) ?_
  rintro w3 hblk3 hu3
  have hk3 : Blk w3 bk (fQ b s) 27 := hblk3
  have hx13 : Ext w1 w3 := hu3.below hx2 (by omega)
  have hx03 := hx1.trans hx13
  have hM3 := hM1.sq.ext hx13
  simp only [↓vsd, vsn, gW, qd, qv, ev, pick, argE, zipE, ne_eq, eq_self, forall_const, implies_true, if_true, if_false, reduceIte, reduceCtorEq, Nat.reduceEqDiff, Nat.reduceAdd, Nat.reduceLT, ↓us_lFnSpliced, r_lFnSpliced, hk3.facts, fQg]
  refine m_call (iTrueSplice_ok y ms css b s t hsm hbs' ht' _ hM3) ?_
  rintro _ w4 hx4 rfl
  rw [tspV]
  have hk4 := hk3.ext hx4
  have hM4 := hM3.ext hx4
  simp only [↓vsd, vsn, gW, qd, qv, ev, pick, argE, zipE, ne_eq, eq_self, forall_const, implies_true, if_true, if_false, reduceIte, reduceCtorEq, Nat.reduceEqDiff, Nat.reduceAdd, Nat.reduceLT, ↓us_lFnSpliced, r_lFnSpliced, hk4.facts, fQg]
  refine m_call (sTrueSplice_ok y ms css b s t hsm hbs' ht' _ hM4) ?_
  rintro _ w5 hx5 rfl
  rw [tspV]
  have hk5 := hk4.ext hx5
  have hM5 := hM4.ext hx5
  simp only [↓vsd, vsn, gW, qd, qv, ev, pick, argE, zipE, ne_eq, eq_self, forall_const, implies_true, if_true, if_false, reduceIte, reduceCtorEq, Nat.reduceEqDiff, Nat.reduceAdd, Nat.reduceLT, ↓us_lFnSpliced, r_lFnSpliced, hk5.facts, fQg]
  refine m_call (iSpliceRows_ok y ms css b s t hsm hbs' ht' _ hM5) ?_
  rintro _ w6 hx6 ⟨r6, rfl, ho6⟩
  have hk6 := hk5.ext hx6
  have hM6 := hM5.ext hx6
  simp only [↓vsd, vsn, gW, qd, qv, ev, pick, argE, zipE, ne_eq, eq_self, forall_const, implies_true, if_true, if_false, reduceIte, reduceCtorEq, Nat.reduceEqDiff, Nat.reduceAdd, Nat.reduceLT, ↓us_lFnSpliced, r_lFnSpliced, hk6.facts, fQg]
  refine m_call (sSpliceRows_ok y ms css b s t hsm hbs' ht' _ hM6) ?_
  rintro _ w7 hx7 ⟨r7, rfl, ho7⟩
  have hk7 := hk6.ext hx7
  have hM7 := hM6.ext hx7
  simp only [↓vsd, vsn, gW, qd, qv, ev, pick, argE, zipE, ne_eq, eq_self, forall_const, implies_true, if_true, if_false, reduceIte, reduceCtorEq, Nat.reduceEqDiff, Nat.reduceAdd, Nat.reduceLT, ↓us_lFnSpliced, r_lFnSpliced, hk7.facts, fQg]
  refine m_call (iSpliceHeads_ok y ms css b s t hsm hbs' ht' _ hM7) ?_
  rintro _ w8 hx8 ⟨r8, rfl, ho8⟩
  have hk8 := hk7.ext hx8
  have hM8 := hM7.ext hx8
  simp only [↓vsd, vsn, gW, qd, qv, ev, pick, argE, zipE, ne_eq, eq_self, forall_const, implies_true, if_true, if_false, reduceIte, reduceCtorEq, Nat.reduceEqDiff, Nat.reduceAdd, Nat.reduceLT, ↓us_lFnSpliced, r_lFnSpliced, hk8.facts, fQg]
  refine m_call (sSpliceHeads_ok y ms css b s t hsm hbs' ht' _ hM8) ?_
  rintro _ w9 hx9 ⟨r9, rfl, ho9⟩
  have hx39 := ((((hx4.trans hx5).trans hx6).trans hx7).trans hx8).trans hx9
  have hx09 := hx03.trans hx39
  simp only [↓vsd, vsn, gW, qd, qv, ev, pick, argE, zipE, ne_eq, eq_self, forall_const, implies_true, if_true, if_false, reduceIte, reduceCtorEq, Nat.reduceEqDiff, Nat.reduceAdd, Nat.reduceLT, ↓us_lFnSpliced, r_lFnSpliced]
  refine m_call (sDrawFalseBetween_ok u more hlen.2 _ (by first | exact h'.ext hx09 | exact h'.ext (dr hx09))) ?_
  rintro _ w10 hx10 ⟨nm, st, xa, ca, nm2, xb, cb, f, rfl, hqa, hqb, hma, hmb, hfl⟩
  simp only [↓vsd, vsn, gW, qd, qv, ev, pick, argE, zipE, ne_eq, eq_self, forall_const, implies_true, if_true, if_false, reduceIte, reduceCtorEq, Nat.reduceEqDiff, Nat.reduceAdd, Nat.reduceLT, ↓us_lFnSpliced, r_lFnSpliced]
  refine m_al ?_
  rintro ba w11 hba hblk11 hx11 hs11
  simp only [↓vsd, vsn, gW, qd, qv, ev, pick, argE, zipE, ne_eq, eq_self, forall_const, implies_true, if_true, if_false, reduceIte, reduceCtorEq, Nat.reduceEqDiff, Nat.reduceAdd, Nat.reduceLT, ↓us_lFnSpliced, r_lFnSpliced]
  refine m_al ?_
  rintro bb w12 hbb hblk12 hx12 hs12
  simp only [↓vsd, vsn, gW, qd, qv, ev, pick, argE, zipE, ne_eq, eq_self, forall_const, implies_true, if_true, if_false, reduceIte, reduceCtorEq, Nat.reduceEqDiff, Nat.reduceAdd, Nat.reduceLT, ↓us_lFnSpliced, r_lFnSpliced]
  refine m_st (hblk11.ext hx12) rfl (Nat.le_refl 3) (fM_one nm st xa hqa.one') ?_
  rintro w13 hblk13 hu13
  have ha13 : Blk w13 ba (fM nm st xa) 25 := hblk13
  simp only [↓vsd, vsn, gW, qd, qv, ev, pick, argE, zipE, ne_eq, eq_self, forall_const, implies_true, if_true, if_false, reduceIte, reduceCtorEq, Nat.reduceEqDiff, Nat.reduceAdd, Nat.reduceLT, ↓us_lFnSpliced, r_lFnSpliced]
  refine m_st (hu13.blk hblk12 (by omega)) rfl (Nat.le_refl 3) (fM_one nm2 st xb hqb.one') ?_
  rintro w14 hblk14 hu14
  have hb14 : Blk w14 bb (fM nm2 st xb) 25 := hblk14
  have ha14 := hu14.blk ha13 (by omega)
  have hx1014 : Ext w10 w14 := hu14.below (hu13.below (hx11.trans hx12) (by omega)) (by have := hx11.size; omega)
  have hqa14 := hqa.ext hx1014
  have hqb14 := hqb.ext hx1014
  have ha8 : ∀ c ∈ ca, c.length ≤ 1048576 := fun c hc => by have := change_len8 (hma.2.2.2 c hc); omega
  have hb8 : ∀ c ∈ cb, c.length ≤ 1048576 := fun c hc => by have := change_len8 (hmb.2.2.2 c hc); omega
  have hna : nm.length ≤ 1048576 := by have := hma.1.2; omega
  have hnb : nm2.length ≤ 1048576 := by have := hmb.1.2; omega
  have hla : ca.length ≤ 1000000 := by have := hma.2.2.1; omega
  have hlb : cb.length ≤ 1000000 := by have := hmb.2.2.1; omega
  simp only [↓vsd, vsn, gW, qd, qv, ev, pick, argE, zipE, ne_eq, eq_self, forall_const, implies_true, if_true, if_false, reduceIte, reduceCtorEq, Nat.reduceEqDiff, Nat.reduceAdd, Nat.reduceLT, ↓us_lFnSpliced, r_lFnSpliced, ha14.facts, hb14.facts, fMg]
  refine m_call (iFalseBetween_ok nm nm2 st st xa xb ca cb f hna ha8 hla hnb hb8 hlb _ hqa14 hqb14) ?_
  rintro _ w15 hx15 rfl
  rw [fbV]
  have ha15 := ha14.ext hx15
  have hb15 := hb14.ext hx15
  simp only [↓vsd, vsn, gW, qd, qv, ev, pick, argE, zipE, ne_eq, eq_self, forall_const, implies_true, if_true, if_false, reduceIte, reduceCtorEq, Nat.reduceEqDiff, Nat.reduceAdd, Nat.reduceLT, ↓us_lFnSpliced, r_lFnSpliced, ha15.facts, hb15.facts, fMg]
  refine m_call (sFalseBetween_ok nm nm2 st st xa xb ca cb f hna ha8 hla hnb hb8 hlb _ (hqa14.ext hx15) (hqb14.ext hx15)) ?_
  rintro _ w16 hx16 rfl
  rw [fbV]
  have ha16 := ha15.ext hx16
  have hb16 := hb15.ext hx16
  have hx1016 := (hx1014.trans hx15).trans hx16
  have hx916 := hx10.trans hx1016
  have ho6 := ho6.ext (((hx7.trans hx8).trans hx9).trans hx916)
  have ho7 := ho7.ext ((hx8.trans hx9).trans hx916)
  have ho8 := ho8.ext (hx9.trans hx916)
  have ho9 := ho9.ext hx916
  have hM16 := hM8.ext (hx9.trans hx916)
  have hk16 := hk8.ext (hx9.trans hx916)
  have hx016 := hx09.trans hx916
  have hLr : (srV ms css b s t).length ≤ 800 := by
    unfold srV
    split
    · rename_i hh; exact hh.2
    · simp
  have hLh : (shV ms css b s t).length ≤ 1000 := by
    unfold shV
    split
    · rw [hdsS_len]; omega
    · simp
  simp only [↓vsd, vsn, gW, qd, qv, ev, pick, argE, zipE, ne_eq, eq_self, forall_const, implies_true, if_true, if_false, reduceIte, reduceCtorEq, Nat.reduceEqDiff, Nat.reduceAdd, Nat.reduceLT, ↓us_lFnSpliced, r_lFnSpliced]
  refine m_call (lqSameS_ok r6 r7 _ _ _ (by first | exact ho6.sq | exact ho6.sq.ext (dr (Ext.refl _))) (by first | exact ho7.sq | exact ho7.sq.ext (dr (Ext.refl _))) (by omega)) ?_
  rintro _ w17 hx17 rfl
  have hx17 : Ext w16 w17 := by first | exact hx17 | exact ud hx17 | exact ud (ud hx17)
  simp only [↓vsd, vsn, gW, qd, qv, ev, pick, argE, zipE, ne_eq, eq_self, forall_const, implies_true, if_true, if_false, reduceIte, reduceCtorEq, Nat.reduceEqDiff, Nat.reduceAdd, Nat.reduceLT, ↓us_lFnSpliced, r_lFnSpliced]
  refine m_call (lqSameS_ok r8 r9 _ _ _ (ho8.ext hx17).sq (ho9.ext hx17).sq (by omega)) ?_
  rintro _ w18 hx18 rfl
  have hx18 : Ext w17 w18 := by first | exact hx18 | exact ud hx18 | exact ud (ud hx18)
  have hk18 := (hk16.ext hx17).ext hx18
  have hM18 := (hM16.ext hx17).ext hx18
  simp only [↓vsd, vsn, gW, qd, qv, ev, pick, argE, zipE, ne_eq, eq_self, forall_const, implies_true, if_true, if_false, reduceIte, reduceCtorEq, Nat.reduceEqDiff, Nat.reduceAdd, Nat.reduceLT, ↓us_lFnSpliced, r_lFnSpliced, hk16.facts, hk18.facts, fQg]
  refine m_call (iGoodSpliced_ok y ms css b s hsm hbs' _ (by first | exact hM18 | exact hM18.ext (dr (Ext.refl _)))) ?_
  rintro _ w19 hx19 rfl
  have hx19 : Ext w18 w19 := by first | exact hx19 | exact ud hx19 | exact ud (ud hx19)
  have hM19 := hM18.ext hx19
  simp only [↓vsd, vsn, gW, qd, qv, ev, pick, argE, zipE, ne_eq, eq_self, forall_const, implies_true, if_true, if_false, reduceIte, reduceCtorEq, Nat.reduceEqDiff, Nat.reduceAdd, Nat.reduceLT, ↓us_lFnSpliced, r_lFnSpliced, hk16.facts, fQg]
  refine m_call (sGoodSpliced_ok y ms css b s hsm hbs' _ (by first | exact hM19 | exact hM19.ext (dr (Ext.refl _)))) ?_
  rintro _ w20 hx20 rfl
  have hx20 : Ext w19 w20 := by first | exact hx20 | exact ud hx20 | exact ud (ud hx20)
  have hx1620 := ((hx17.trans hx18).trans hx19).trans hx20
  have hx020 := hx016.trans hx1620
  have ho20 := ho6.ext hx1620
  have ha20 := ha16.ext hx1620
  have hb20 := hb16.ext hx1620
  have hqa20 := hqa14.ext ((hx15.trans hx16).trans hx1620)
  have hqb20 := hqb14.ext ((hx15.trans hx16).trans hx1620)
  have h38 : 3 ≤ st ∧ st ≤ 8 := by have := hma.2.1; omega
  by_cases hF : FbOk nm st ca nm2 st cb f
  · have hFd := decide_eq_true hF
    have hft : turnL f ∈ falseL (leadR st cb) (leadR st ca) ↔ f ∈ falseL (leadR st ca) (leadR st cb) := false_turn (leadR_rows h38 ca) (leadR_rows h38 cb) hF.2.2.2.1 (by have := hF.2.2.2.2; omega)
    have hF2 : FbOk nm2 st cb nm st ca (turnL f) := ⟨hmb, hma, rfl, turnL_row hF.2.2.2.1, by rw [turnL_len]; exact hF.2.2.2.2⟩
    have hFd2 := decide_eq_true hF2
    have hfb : fbB nm2 st cb nm st ca (turnL f) = fbB nm st ca nm2 st cb f := by
      rw [fbB, fbB, hFd, hFd2, Bool.true_and, Bool.true_and, Int.toNat_natCast]
      exact decide_eq_decide.2 hft
    simp only [↓vsd, vsn, gW, qd, qv, ev, pick, argE, zipE, ne_eq, eq_self, forall_const, implies_true, if_true, if_false, reduceIte, reduceCtorEq, Nat.reduceEqDiff, Nat.reduceAdd, Nat.reduceLT, ↓us_lFnSpliced, r_lFnSpliced, hFd]
    refine m_call (sTurnRow_ok f _) ?_
    rintro re w21 hx21 hre
    rw [turnRV, if_pos hF.2.2.2.1] at hre
    subst hre
    have hx21 : Ext w20 w21 := by first | exact hx21 | exact ud hx21 | exact ud (ud hx21)
    have ha21 := ha20.ext hx21
    have hb21 := hb20.ext hx21
    simp only [↓vsd, vsn, gW, qd, qv, ev, pick, argE, zipE, ne_eq, eq_self, forall_const, implies_true, if_true, if_false, reduceIte, reduceCtorEq, Nat.reduceEqDiff, Nat.reduceAdd, Nat.reduceLT, ↓us_lFnSpliced, r_lFnSpliced, ha21.facts, hb21.facts, fMg]
    refine m_call (iFalseBetween_ok nm2 nm st st xb xa cb ca (turnL f) hnb hb8 hlb hna ha8 hla _ (by first | exact hqb20.ext hx21 | exact hqb20.ext (dr hx21)) (by first | exact hqa20.ext hx21 | exact hqa20.ext (dr hx21))) ?_
    rintro _ w22 hx22 rfl
    have hx22 : Ext w21 w22 := by first | exact hx22 | exact ud hx22 | exact ud (ud hx22)
    rw [fbV, hfb, hFd2]
    have hxW := (hx020.trans hx21).trans hx22
    have hoW := (ho20.ext hx21).ext hx22
    simp only [↓vsd, vsn, gW, qd, qv, ev, pick, argE, zipE, ne_eq, eq_self, forall_const, implies_true, if_true, if_false, reduceIte, reduceCtorEq, Nat.reduceEqDiff, Nat.reduceAdd, Nat.reduceLT, ↓us_lFnSpliced, r_lFnSpliced]
    refine ⟨fun _ => hxW, fun hh => ?_⟩
    obtain ⟨n, hn, h8⟩ := spl_st hh.1
    have hsr : srV ms css b s t = rwsS n css b s t (t.length / 2) := by rw [srV, if_pos hh.2, hn]; rfl
    have htr := spl_truth hh.1 hn h8 _ (Nat.le_refl _)
    have hX : tspB ms css b s t = decide (rwsS n css b s t (t.length / 2)).Nodup := by
      rw [tspB, decide_eq_true hh.1, Bool.true_and, hn]
      exact decide_eq_decide.2 htr.symm
    have hrr := spl_rows hh.1 hn h8
    rw [hsr] at hoW hLr
    have hIR : IsRows (rwsS n css b s t (t.length / 2)) := ⟨fun r hr => ⟨(hrr r hr).1, by rw [(hrr r hr).2, (hrr _ (getD_mem [] (List.length_pos_of_mem hr))).2]⟩, hLr⟩
    have hIRd : decide (IsRows (rwsS n css b s t (t.length / 2))) = true := decide_eq_true hIR
    have hIN : decide (IsRows (rwsS n css b s t (t.length / 2)) ∧ (rwsS n css b s t (t.length / 2)).Nodup) = decide (rwsS n css b s t (t.length / 2)).Nodup := decide_eq_decide.2 ⟨fun h => h.2, fun h => ⟨hIR, h⟩⟩
    refine m_call (sIsTrueList_ok r6 (rwsS n css b s t (t.length / 2)) (Nat.le_trans hLr (by decide)) _ (by first | exact hoW.sq | exact hoW.sq.ext (dr (Ext.refl _)))) ?_
    rintro _ wz hxz rfl
    rw [trueV, hIRd, hIN]
    simp only [↓vsd, vsn, gW, qd, qv, ev, pick, argE, zipE, ne_eq, eq_self, forall_const, implies_true, if_true, if_false, reduceIte, reduceCtorEq, Nat.reduceEqDiff, Nat.reduceAdd, Nat.reduceLT, ↓us_lFnSpliced, r_lFnSpliced, hX]
    exact hxW.trans (by first | exact hxz | exact ud hxz)
  · have hFd := decide_eq_false hF
    simp only [↓vsd, vsn, gW, qd, qv, ev, pick, argE, zipE, ne_eq, eq_self, forall_const, implies_true, if_true, if_false, reduceIte, reduceCtorEq, Nat.reduceEqDiff, Nat.reduceAdd, Nat.reduceLT, ↓us_lFnSpliced, r_lFnSpliced, hFd]
    have hxW := hx020
    have hoW := ho20
    refine ⟨fun _ => hxW, fun hh => ?_⟩
    obtain ⟨n, hn, h8⟩ := spl_st hh.1
    have hsr : srV ms css b s t = rwsS n css b s t (t.length / 2) := by rw [srV, if_pos hh.2, hn]; rfl
    have htr := spl_truth hh.1 hn h8 _ (Nat.le_refl _)
    have hX : tspB ms css b s t = decide (rwsS n css b s t (t.length / 2)).Nodup := by
      rw [tspB, decide_eq_true hh.1, Bool.true_and, hn]
      exact decide_eq_decide.2 htr.symm
    have hrr := spl_rows hh.1 hn h8
    rw [hsr] at hoW hLr
    have hIR : IsRows (rwsS n css b s t (t.length / 2)) := ⟨fun r hr => ⟨(hrr r hr).1, by rw [(hrr r hr).2, (hrr _ (getD_mem [] (List.length_pos_of_mem hr))).2]⟩, hLr⟩
    have hIRd : decide (IsRows (rwsS n css b s t (t.length / 2))) = true := decide_eq_true hIR
    have hIN : decide (IsRows (rwsS n css b s t (t.length / 2)) ∧ (rwsS n css b s t (t.length / 2)).Nodup) = decide (rwsS n css b s t (t.length / 2)).Nodup := decide_eq_decide.2 ⟨fun h => h.2, fun h => ⟨hIR, h⟩⟩
    refine m_call (sIsTrueList_ok r6 (rwsS n css b s t (t.length / 2)) (Nat.le_trans hLr (by decide)) _ (by first | exact hoW.sq | exact hoW.sq.ext (dr (Ext.refl _)))) ?_
    rintro _ wz hxz rfl
    rw [trueV, hIRd, hIN]
    simp only [↓vsd, vsn, gW, qd, qv, ev, pick, argE, zipE, ne_eq, eq_self, forall_const, implies_true, if_true, if_false, reduceIte, reduceCtorEq, Nat.reduceEqDiff, Nat.reduceAdd, Nat.reduceLT, ↓us_lFnSpliced, r_lFnSpliced, hX]
    exact hxW.trans (by first | exact hxz | exact ud hxz)
end Go.Proofs.YthopbkemkfjebaaGreat
