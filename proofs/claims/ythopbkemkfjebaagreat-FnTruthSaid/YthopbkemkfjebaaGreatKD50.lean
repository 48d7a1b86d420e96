/-
  The law FnTruth.
  Conditions: none.
-/
import Derived.Test.YthopbkemkfjebaaGreatKD49
set_option linter.unusedSimpArgs false
set_option linter.unusedVariables false
set_option linter.defProp false
namespace Go.Proofs.YthopbkemkfjebaaGreat
open Go Go.RowKit
section
variable (P : Program) (k : KT) (e : Env) (w : World)
abbrev b16_1 : X := (.cond (.t 6) (.seq (.reg [2, 3] (.c (.q 2 [] (.mv (.c (.bool false)))) (.c (.q 3 [] (.mv (.c (.bool false)))) .nil))) .ret) .skip)
def t16_1 := b16_1
theorem u16_1 : vcK P t16_1 k e w = vcK P b16_1 k e w := rfl
abbrev b16_2 : X := (.seq (.drw [2, 3] (.c (.q 7 [] (.lda 3 (.t 1))) (.c (.q 8 [] (.fa 1 (.t 1))) (.c (.q 9 [] (.ld (.t 8))) (.c (.e (some 10) [] (.call false 70 [(.t 9)])) (.c (.e (some 11) [] (.call false 69 [(.t 7), (.t 10)])) (.c (.e (some 12) [] (.call false 68 [(.t 11)])) (.c (.q 2 [] (.mv (.t 12))) (.c (.q 3 [] (.mv (.c (.bool true)))) .nil))))))))) .ret)
def t16_2 := b16_2
theorem u16_2 : vcK P t16_2 k e w = vcK P b16_2 k e w := rfl
abbrev b16_3 : X := (.seq (.seq (.reg [1, 6] (.c (.q 4 [] (.lda 3 (.t 1))) (.c (.e (some 5) [] (.call false 57 [(.t 4)])) (.c (.q 6 [] (.not (.t 5))) .nil)))) t16_1) t16_2)
def t16_3 := b16_3
theorem u16_3 : vcK P t16_3 k e w = vcK P b16_3 k e w := rfl
abbrev b16_0 : X := (.seq (.reg [1] (.c (.e (some 1) [] (.box 25 (.t 0))) (.c (.q 2 [] (.mv (.c (.bool false)))) (.c (.q 3 [] (.mv (.c (.bool false)))) .nil)))) t16_3)
def x_sIsLeadTrue := b16_0
theorem u16_0 : vcK P x_sIsLeadTrue k e w = vcK P b16_0 k e w := rfl
def r_sIsLeadTrue : List XO := [(.mv (.t 2)), (.mv (.t 3))]
theorem c_sIsLeadTrue : convF Tryz.prog [56, 58, 59, 60, 61, 62, 72, 73, 77, 97, 98, 109, 110, 111, 112, 115, 128, 136] Tryz.f16 [([1], []), ([1, 6], []), ([2, 3], []), ([2, 3], [])] = some (x_sIsLeadTrue, r_sIsLeadTrue) := by kernel_rfl
def us_sIsLeadTrue :=  (aI (aI @u16_0 @u16_1) (aI @u16_2 @u16_3))
abbrev b3_1 : X := (.cond (.t 33) (.seq (.reg [4] (.c (.q 4 [] (.mv (.c (.bool true)))) .nil)) .ret) .skip)
def t3_1 := b3_1
theorem u3_1 : vcK P t3_1 k e w = vcK P b3_1 k e w := rfl
abbrev b3_2 : X := (.cond (.t 114) (.seq (.reg [4] (.c (.q 4 [] (.mv (.c (.bool false)))) .nil)) .ret) .skip)
def t3_2 := b3_2
theorem u3_2 : vcK P t3_2 k e w = vcK P b3_2 k e w := rfl
abbrev b3_3 : X := (.cond (.t 116) (.seq (.reg [4] (.c (.q 4 [] (.mv (.c (.bool true)))) .nil)) .ret) .skip)
def t3_3 := b3_3
theorem u3_3 : vcK P t3_3 k e w = vcK P b3_3 k e w := rfl
abbrev b3_4 : X := (.cond (.t 132) (.seq (.reg [4] (.c (.q 4 [] (.mv (.c (.bool false)))) .nil)) .ret) .skip)
def t3_4 := b3_4
theorem u3_4 : vcK P t3_4 k e w = vcK P b3_4 k e w := rfl
abbrev b3_5 : X := (.cond (.t 141) (.seq (.reg [4] (.c (.q 142 [] (.mv (.t 7))) (.c (.q 143 [] (.len (.t 142))) (.c (.q 144 [] (.fa 2 (.t 5))) (.c (.q 145 [] (.ld (.t 144))) (.c (.q 146 [] (.lens (.t 145))) (.c (.q 147 [] (.bin .mul (.t 143) (.t 146))) (.c (.q 148 [] (.bin .gtr (.t 147) (.c (.int .i64 800)))) (.c (.q 4 [] (.mv (.t 148))) .nil))))))))) .ret) .skip)
def t3_5 := b3_5
theorem u3_5 : vcK P t3_5 k e w = vcK P b3_5 k e w := rfl
abbrev b3_6 : X := (.seq (.reg [4] (.c (.q 154 [] (.mv (.t 27))) (.c (.q 155 [] (.mv (.t 154))) (.c (.q 156 [(155, true)] (.mv (.t 26))) (.c (.q 157 [(155, true)] (.mv (.t 8))) (.c (.q 158 [(155, true)] (.beq false (.t 156) (.t 157))) (.c (.q 159 [] (.pick (.t 155) (.t 158) (.c (.bool false)))) (.c (.q 4 [] (.mv (.t 159))) .nil)))))))) .ret)
def t3_6 := b3_6
theorem u3_6 : vcK P t3_6 k e w = vcK P b3_6 k e w := rfl
abbrev b3_7 : X := (.seq (.reg [8, 26, 27] (.c (.q 150 [] (.mv (.t 24))) (.c (.e (some 151) [] (.call false 18 [(.t 150)])) (.c (.q 149 [] (.mv (.t 151))) (.c (.q 152 [] (.ext 0 (.t 149))) (.c (.q 153 [] (.ext 1 (.t 149))) (.c (.q 26 [] (.mv (.t 152))) (.c (.q 27 [] (.mv (.t 153))) .nil)))))))) t3_6)
def t3_7 := b3_7
theorem u3_7 : vcK P t3_7 k e w = vcK P b3_7 k e w := rfl
abbrev b3_8 : X := (.seq (.seq (.reg [5, 7, 8, 24, 141] (.c (.q 140 [] (.mv (.t 25))) (.c (.q 141 [] (.not (.t 140))) .nil))) t3_5) t3_7)
def t3_8 := b3_8
theorem u3_8 : vcK P t3_8 k e w = vcK P b3_8 k e w := rfl
abbrev b3_9 : X := (.seq (.reg [5, 7, 8, 24, 25] (.c (.q 134 [] (.lda 3 (.t 5))) (.c (.q 135 [] (.lda 2 (.t 6))) (.c (.q 136 [] (.mv (.t 7))) (.c (.e (some 137) [] (.call false 17 [(.t 134), (.t 135), (.t 136)])) (.c (.q 133 [] (.mv (.t 137))) (.c (.q 138 [] (.ext 0 (.t 133))) (.c (.q 139 [] (.ext 1 (.t 133))) (.c (.q 24 [] (.mv (.t 138))) (.c (.q 25 [] (.mv (.t 139))) .nil)))))))))) t3_8)
def t3_9 := b3_9
theorem u3_9 : vcK P t3_9 k e w = vcK P b3_9 k e w := rfl
abbrev b3_10 : X := (.seq (.seq (.reg [5, 6, 7, 8, 132] (.c (.q 122 [] (.mv (.t 23))) (.c (.q 123 [] (.not (.t 122))) (.c (.q 124 [] (.mv (.t 123))) (.c (.q 125 [(124, false)] (.mv (.t 8))) (.c (.q 126 [(124, false)] (.mv (.t 22))) (.c (.q 127 [(124, false)] (.mv (.t 126))) (.c (.q 128 [(127, true), (124, false)] (.mv (.t 13))) (.c (.q 129 [(127, true), (124, false)] (.not (.t 128))) (.c (.q 130 [(124, false)] (.pick (.t 127) (.t 129) (.c (.bool false)))) (.c (.q 131 [(124, false)] (.beq true (.t 125) (.t 130))) (.c (.q 132 [] (.pick (.t 124) (.c (.bool true)) (.t 131))) .nil)))))))))))) t3_4) t3_9)
def t3_10 := b3_10
theorem u3_10 : vcK P t3_10 k e w = vcK P b3_10 k e w := rfl
abbrev b3_11 : X := (.seq (.reg [5, 6, 7, 8, 13, 22, 23] (.c (.q 118 [] (.lda 3 (.t 5))) (.c (.e (some 119) [] (.call false 16 [(.t 118)])) (.c (.q 117 [] (.mv (.t 119))) (.c (.q 120 [] (.ext 0 (.t 117))) (.c (.q 121 [] (.ext 1 (.t 117))) (.c (.q 22 [] (.mv (.t 120))) (.c (.q 23 [] (.mv (.t 121))) .nil)))))))) t3_10)
def t3_11 := b3_11
theorem u3_11 : vcK P t3_11 k e w = vcK P b3_11 k e w := rfl
abbrev b3_12 : X := (.seq (.seq (.reg [5, 6, 7, 8, 13, 116] (.c (.q 115 [] (.mv (.t 9))) (.c (.q 116 [] (.not (.t 115))) .nil))) t3_3) t3_11)
def t3_12 := b3_12
theorem u3_12 : vcK P t3_12 k e w = vcK P b3_12 k e w := rfl
abbrev b3_13 : X := (.seq (.seq (.reg [5, 6, 7, 8, 9, 13, 114] (.c (.q 85 [] (.mv (.t 9))) (.c (.q 86 [] (.mv (.t 11))) (.c (.q 87 [] (.beq true (.t 85) (.t 86))) (.c (.q 88 [] (.mv (.t 87))) (.c (.q 89 [(88, false)] (.mv (.t 8))) (.c (.q 90 [(88, false)] (.mv (.t 10))) (.c (.q 91 [(88, false)] (.beq true (.t 89) (.t 90))) (.c (.q 92 [] (.pick (.t 88) (.c (.bool true)) (.t 91))) (.c (.q 93 [] (.mv (.t 92))) (.c (.q 94 [(93, false)] (.mv (.t 13))) (.c (.q 95 [(93, false)] (.mv (.t 15))) (.c (.q 96 [(93, false)] (.beq true (.t 94) (.t 95))) (.c (.q 97 [] (.pick (.t 93) (.c (.bool true)) (.t 96))) (.c (.q 98 [] (.mv (.t 97))) (.c (.q 99 [(98, false)] (.mv (.t 12))) (.c (.q 100 [(98, false)] (.mv (.t 14))) (.c (.e (some 101) [(98, false)] (.call false 14 [(.t 99), (.t 100)])) (.c (.q 102 [(98, false)] (.not (.t 101))) (.c (.q 103 [] (.pick (.t 98) (.c (.bool true)) (.t 102))) (.c (.q 104 [] (.mv (.t 103))) (.c (.q 105 [(104, false)] (.mv (.t 19))) (.c (.q 106 [(104, false)] (.mv (.t 21))) (.c (.q 107 [(104, false)] (.beq true (.t 105) (.t 106))) (.c (.q 108 [] (.pick (.t 104) (.c (.bool true)) (.t 107))) (.c (.q 109 [] (.mv (.t 108))) (.c (.q 110 [(109, false)] (.mv (.t 18))) (.c (.q 111 [(109, false)] (.mv (.t 20))) (.c (.e (some 112) [(109, false)] (.call false 15 [(.t 110), (.t 111)])) (.c (.q 113 [(109, false)] (.not (.t 112))) (.c (.q 114 [] (.pick (.t 109) (.c (.bool true)) (.t 113))) .nil))))))))))))))))))))))))))))))) t3_2) t3_12)
def t3_13 := b3_13
theorem u3_13 : vcK P t3_13 k e w = vcK P b3_13 k e w := rfl
abbrev b3_14 : X := (.seq (.reg [5, 6, 7, 8, 9, 10, 11, 12, 13, 14, 15, 18, 19, 20, 21] (.c (.q 80 [] (.lda 3 (.t 16))) (.c (.q 81 [] (.mv (.t 17))) (.c (.e (some 82) [] (.call false 13 [(.t 80), (.t 81)])) (.c (.q 79 [] (.mv (.t 82))) (.c (.q 83 [] (.ext 0 (.t 79))) (.c (.q 84 [] (.ext 1 (.t 79))) (.c (.q 20 [] (.mv (.t 83))) (.c (.q 21 [] (.mv (.t 84))) .nil))))))))) t3_13)
def t3_14 := b3_14
theorem u3_14 : vcK P t3_14 k e w = vcK P b3_14 k e w := rfl
abbrev b3_15 : X := (.seq (.reg [5, 6, 7, 8, 9, 10, 11, 12, 13, 14, 15, 16, 17, 18, 19] (.c (.q 74 [] (.lda 3 (.t 16))) (.c (.q 75 [] (.mv (.t 17))) (.c (.e (some 76) [] (.call false 12 [(.t 74), (.t 75)])) (.c (.q 73 [] (.mv (.t 76))) (.c (.q 77 [] (.ext 0 (.t 73))) (.c (.q 78 [] (.ext 1 (.t 73))) (.c (.q 18 [] (.mv (.t 77))) (.c (.q 19 [] (.mv (.t 78))) .nil))))))))) t3_14)
def t3_15 := b3_15
theorem u3_15 : vcK P t3_15 k e w = vcK P b3_15 k e w := rfl
abbrev b3_16 : X := (.seq (.reg [5, 6, 7, 8, 9, 10, 11, 12, 13, 14, 15, 16, 17] (.c (.q 69 [] (.mv (.t 1))) (.c (.e (some 70) [] (.call false 11 [(.t 69)])) (.c (.q 68 [] (.mv (.t 70))) (.c (.q 71 [] (.ext 0 (.t 68))) (.c (.q 72 [] (.ext 1 (.t 68))) (.c (.e (some 16) [] (.al 25 [(S []), (.int .i64 0), (.slice none 0 0)])) (.c (.e none [] (.st 3 (.t 16) (.t 71))) (.c (.q 17 [] (.mv (.t 72))) .nil))))))))) t3_15)
def t3_16 := b3_16
theorem u3_16 : vcK P t3_16 k e w = vcK P b3_16 k e w := rfl
abbrev b3_17 : X := (.seq (.reg [1, 5, 6, 7, 8, 9, 10, 11, 12, 13, 14, 15] (.c (.q 62 [] (.lda 3 (.t 5))) (.c (.q 63 [] (.lda 2 (.t 6))) (.c (.q 64 [] (.mv (.t 7))) (.c (.e (some 65) [] (.call false 10 [(.t 62), (.t 63), (.t 64)])) (.c (.q 61 [] (.mv (.t 65))) (.c (.q 66 [] (.ext 0 (.t 61))) (.c (.q 67 [] (.ext 1 (.t 61))) (.c (.q 14 [] (.mv (.t 66))) (.c (.q 15 [] (.mv (.t 67))) .nil)))))))))) t3_16)
def t3_17 := b3_17
theorem u3_17 : vcK P t3_17 k e w = vcK P b3_17 k e w := rfl
abbrev b3_18 : X := (.seq (.reg [1, 5, 6, 7, 8, 9, 10, 11, 12, 13] (.c (.q 55 [] (.lda 3 (.t 5))) (.c (.q 56 [] (.lda 2 (.t 6))) (.c (.q 57 [] (.mv (.t 7))) (.c (.e (some 58) [] (.call false 9 [(.t 55), (.t 56), (.t 57)])) (.c (.q 54 [] (.mv (.t 58))) (.c (.q 59 [] (.ext 0 (.t 54))) (.c (.q 60 [] (.ext 1 (.t 54))) (.c (.q 12 [] (.mv (.t 59))) (.c (.q 13 [] (.mv (.t 60))) .nil)))))))))) t3_17)
def t3_18 := b3_18
theorem u3_18 : vcK P t3_18 k e w = vcK P b3_18 k e w := rfl
abbrev b3_19 : X := (.seq (.reg [1, 5, 6, 7, 8, 9, 10, 11] (.c (.q 48 [] (.lda 3 (.t 5))) (.c (.q 49 [] (.lda 2 (.t 6))) (.c (.q 50 [] (.mv (.t 7))) (.c (.e (some 51) [] (.call false 8 [(.t 48), (.t 49), (.t 50)])) (.c (.q 47 [] (.mv (.t 51))) (.c (.q 52 [] (.ext 0 (.t 47))) (.c (.q 53 [] (.ext 1 (.t 47))) (.c (.q 10 [] (.mv (.t 52))) (.c (.q 11 [] (.mv (.t 53))) .nil)))))))))) t3_18)
def t3_19 := b3_19
theorem u3_19 : vcK P t3_19 k e w = vcK P b3_19 k e w := rfl
abbrev b3_20 : X := (.seq (.reg [1, 5, 6, 7, 8, 9] (.c (.q 41 [] (.lda 3 (.t 5))) (.c (.q 42 [] (.lda 2 (.t 6))) (.c (.q 43 [] (.mv (.t 7))) (.c (.e (some 44) [] (.call false 7 [(.t 41), (.t 42), (.t 43)])) (.c (.q 40 [] (.mv (.t 44))) (.c (.q 45 [] (.ext 0 (.t 40))) (.c (.q 46 [] (.ext 1 (.t 40))) (.c (.q 8 [] (.mv (.t 45))) (.c (.q 9 [] (.mv (.t 46))) .nil)))))))))) t3_19)
def t3_20 := b3_20
theorem u3_20 : vcK P t3_20 k e w = vcK P b3_20 k e w := rfl
abbrev b3_21 : X := (.seq (.reg [1, 5, 6, 7] (.c (.q 35 [] (.mv (.t 0))) (.c (.e (some 36) [] (.call false 6 [(.t 35)])) (.c (.q 34 [] (.mv (.t 36))) (.c (.q 37 [] (.ext 0 (.t 34))) (.c (.q 38 [] (.ext 1 (.t 34))) (.c (.q 39 [] (.ext 2 (.t 34))) (.c (.e (some 5) [] (.al 25 [(S []), (.int .i64 0), (.slice none 0 0)])) (.c (.e (some 6) [] (.al 27 [(S []), (S [])])) (.c (.e none [] (.st 3 (.t 5) (.t 37))) (.c (.e none [] (.st 2 (.t 6) (.t 38))) (.c (.q 7 [] (.mv (.t 39))) .nil)))))))))))) t3_20)
def t3_21 := b3_21
theorem u3_21 : vcK P t3_21 k e w = vcK P b3_21 k e w := rfl
abbrev b3_22 : X := (.seq (.seq (.reg [0, 1, 33] (.c (.q 28 [] (.mv (.t 0))) (.c (.q 29 [] (.lens (.t 28))) (.c (.q 30 [] (.mv (.t 1))) (.c (.q 31 [] (.lens (.t 30))) (.c (.q 32 [] (.bin .add (.t 29) (.t 31))) (.c (.q 33 [] (.bin .gtr (.t 32) (.c (.int .i64 1048576)))) .nil))))))) t3_1) t3_21)
def t3_22 := b3_22
theorem u3_22 : vcK P t3_22 k e w = vcK P b3_22 k e w := rfl
abbrev b3_0 : X := (.seq (.reg [0, 1] (.c (.q 4 [] (.mv (.c (.bool false)))) .nil)) t3_22)
def x_lFnTruth := b3_0
theorem u3_0 : vcK P x_lFnTruth k e w = vcK P b3_0 k e w := rfl
def r_lFnTruth : List XO := [(.mv (.t 4))]
theorem c_lFnTruth : convF Tryz.prog [56, 58, 59, 60, 61, 62, 72, 73, 77, 97, 98, 109, 110, 111, 112, 115, 128, 136] Tryz.f3 [([0, 1], []), ([0, 1, 33], []), ([4], []), ([1, 5, 6, 7], []), ([1, 5, 6, 7, 8, 9], []), ([1, 5, 6, 7, 8, 9, 10, 11], []), ([1, 5, 6, 7, 8, 9, 10, 11, 12, 13], []), ([1, 5, 6, 7, 8, 9, 10, 11, 12, 13, 14, 15], []), ([5, 6, 7, 8, 9, 10, 11, 12, 13, 14, 15, 16, 17], []), ([5, 6, 7, 8, 9, 10, 11, 12, 13, 14, 15, 16, 17, 18, 19], []), ([5, 6, 7, 8, 9, 10, 11, 12, 13, 14, 15, 18, 19, 20, 21], []), ([5, 6, 7, 8, 9, 13, 114], []), ([4], []), ([5, 6, 7, 8, 13, 116], []), ([4], []), ([5, 6, 7, 8, 13, 22, 23], []), ([5, 6, 7, 8, 132], []), ([4], []), ([5, 7, 8, 24, 25], []), ([5, 7, 8, 24, 141], []), ([4], []), ([8, 26, 27], []), ([4], [])] = some (x_lFnTruth, r_lFnTruth) := by kernel_rfl
def us_lFnTruth :=  (aI (aI (aI (aI @u3_0 @u3_1) (aI @u3_2 (aI @u3_3 @u3_4))) (aI (aI @u3_5 (aI @u3_6 @u3_7)) (aI @u3_8 (aI @u3_9 @u3_10)))) (aI (aI (aI @u3_11 (aI @u3_12 @u3_13)) (aI @u3_14 (aI @u3_15 @u3_16))) (aI (aI @u3_17 (aI @u3_18 @u3_19)) (aI @u3_20 (aI @u3_21 @u3_22)))))
end
/-- No pair of indices holds. -/
theorem prs_nil (p : Nat → Nat → Bool) (n : Nat) : prs p n n = [] ↔ ∀ i k, i < k → k < n → p i k = false := by
  unfold prs prRow
  rw [List.flatMap_eq_nil_iff]
  constructor
  · intro h i k hik hk
    have h1 := h i (List.mem_range.2 (by omega))
    rw [List.map_eq_nil_iff, List.filter_eq_nil_iff] at h1
    have h2 := h1 k (List.mem_range.2 hk)
    simpa [hik] using h2
  · intro h i hi
    rw [List.map_eq_nil_iff, List.filter_eq_nil_iff]
    intro k hk
    have := h i k
    simp only [List.mem_range] at hk
    simp only [Bool.and_eq_true, decide_eq_true_eq, not_and, Bool.not_eq_true]
    exact fun hik => h i k hik hk
theorem clL_nil (st : Nat) (cs l : List Bs) : (clL st cs l).length = 0 ↔ l.Pairwise fun g h => timesL (turnL g) h ∉ falseL (leadR st cs) (leadR st cs) := by
  rw [List.length_eq_zero_iff, clL, prs_nil, List.pairwise_iff_getElem]
  have e : ∀ i, (hi : i < l.length) → l.getD i [] = l[i] := fun i hi => by rw [List.getD_eq_getElem?_getD, List.getElem?_eq_getElem hi]; rfl
  constructor
  · intro h i j hi hj hij
    have := h i j hij hj
    rw [clP, decide_eq_false_iff_not, e i hi, e j hj] at this
    exact this
  · intro h i j hij hj
    have := h i j (by omega) hj hij
    rw [clP, decide_eq_false_iff_not, e i (by omega), e j hj]
    exact this
/-- The rows of a touch hold no row twice just when it is true by its heads. -/
theorem trueT_iff {nm : Bs} {st : Nat} {cs : List Bs} {b s t : Bs} (hM : IsMT nm st cs b s t) : TrueT st cs b s t ↔ (rowsT st cs b s t).Nodup := by
  have h38 : 3 ≤ st ∧ st ≤ 8 := by have := hM.1.1.2.1; omega
  have h0 : headsP st cs b s t t.length ≠ [] := fun e => by
    have h1 := congrArg List.length e
    rw [headsP_len, List.length_nil] at h1
    have := hM.2.1.1
    omega
  rw [TrueT, rowsT, truth_iff h38 cs _ (headsP_st hM.1 t t.length) h0, clT, clL_nil]
theorem sIsLeadTrue_ok (nm : Bs) (st : Nat) (v : Value) (cs : List Bs) (hm : IsMethod nm st cs) (hnm : nm.length ≤ 1048576) (hs : ∀ c ∈ cs, c.length ≤ 1048576) (w : World) (h : Sq fS 1 w v cs) : Fn 16 [mV nm st v] w (fun r _ => r = .tuple ⟨[.bool (decide (leadR st cs).Nodup), .bool true]⟩) := by
  have h38 : 3 ≤ st ∧ st ≤ 8 := by have := hm.2.1; omega
  have hcl0 := hm.2.2.1
  have hr0 : IsRow (roundsL st) := roundsL_row st h38
  (refine callsV_of mix Tryz.func16 c_sIsLeadTrue ?_; simp only [↓vsd, vsn, gW, qd, qv, ev, pick, argE, zipE, ne_eq, eq_self, forall_const, implies_true, if_true, if_false, reduceIte, reduceCtorEq, Nat.reduceEqDiff, Nat.reduceAdd, Nat.reduceLT, ↓us_sIsLeadTrue, r_sIsLeadTrue])
  refine m_al ?_
  rintro b1 w1 hb1 hblk1 hx1 hs1
  have h1 : Blk w1 b1 (fM nm st v) 25 := hblk1
  simp only [↓vsd, vsn, gW, qd, qv, ev, pick, argE, zipE, ne_eq, eq_self, forall_const, implies_true, if_true, if_false, reduceIte, reduceCtorEq, Nat.reduceEqDiff, Nat.reduceAdd, Nat.reduceLT, ↓us_sIsLeadTrue, r_sIsLeadTrue, h1.facts, fMg]
  refine m_call (sl4Good_ok nm st v cs hnm hs (by omega) _ (by first | exact h.ext hx1 | exact h.ext (dr hx1))) ?_
  rintro _ w2 hx2 rfl
  have hx2 : Ext w1 w2 := by first | exact hx2 | exact ud hx2 | exact ud (ud hx2)
  have h12 := h1.ext hx2
  have hx02 := hx1.trans hx2
  simp only [↓vsd, vsn, gW, qd, qv, ev, pick, argE, zipE, ne_eq, eq_self, forall_const, implies_true, if_true, if_false, reduceIte, reduceCtorEq, Nat.reduceEqDiff, Nat.reduceAdd, Nat.reduceLT, ↓us_sIsLeadTrue, r_sIsLeadTrue, hm, h1.facts, h12.facts, fMg]
  refine m_call (sl1Rounds_ok st (by omega) _) ?_
  rintro _ w3 hx3 rfl
  have hx3 : Ext w2 w3 := by first | exact hx3 | exact ud hx3 | exact ud (ud hx3)
  have hx03 := hx02.trans hx3
  have h13 := h12.ext hx3
  simp only [↓vsd, vsn, gW, qd, qv, ev, pick, argE, zipE, ne_eq, eq_self, forall_const, implies_true, if_true, if_false, reduceIte, reduceCtorEq, Nat.reduceEqDiff, Nat.reduceAdd, Nat.reduceLT, ↓us_sIsLeadTrue, r_sIsLeadTrue, h1.facts, h12.facts, h13.facts, fMg]
  refine m_call (sl11Lead_ok nm st v cs (roundsL st) hm hr0 _ (by first | exact h.ext hx03 | exact h.ext (dr hx03))) ?_
  rintro x w5 hx5 ho5
  have hx5 : Ext w3 w5 := by first | exact hx5 | exact ud hx5 | exact ud (ud hx5)
  have hq5 : Sq fS 1 w5 x (leadR st cs) := ho5.sq
  simp only [↓vsd, vsn, gW, qd, qv, ev, pick, argE, zipE, ne_eq, eq_self, forall_const, implies_true, if_true, if_false, reduceIte, reduceCtorEq, Nat.reduceEqDiff, Nat.reduceAdd, Nat.reduceLT, ↓us_sIsLeadTrue, r_sIsLeadTrue]
  refine m_call (sl7True_ok x (leadR st cs) (by rw [leadR_len]; omega) _ (by first | exact hq5 | exact hq5.ext (dr (Ext.refl _)))) ?_
  rintro _ w6 hx6 rfl
  have hx6 : Ext w5 w6 := by first | exact hx6 | exact ud hx6 | exact ud (ud hx6)
  simp only [↓vsd, vsn, gW, qd, qv, ev, pick, argE, zipE, ne_eq, eq_self, forall_const, implies_true, if_true, if_false, reduceIte, reduceCtorEq, Nat.reduceEqDiff, Nat.reduceAdd, Nat.reduceLT, ↓us_sIsLeadTrue, r_sIsLeadTrue]
  exact ((hx03.trans hx5).trans hx6)
theorem rowsT_rows {nm : Bs} {st : Nat} {cs : List Bs} {b s t : Bs} (hM : IsMT nm st cs b s t) : ∀ r ∈ rowsT st cs b s t, IsRow r ∧ r.length = st := fun r hr => by
  unfold rowsT leadsL at hr
  obtain ⟨h, hh, hr⟩ := List.mem_flatMap.1 hr
  have h1 := headsP_st hM.1 t t.length h hh
  obtain ⟨i, _, rfl⟩ := List.mem_map.1 hr
  exact ⟨underL_row _ h1.1, by rw [underL_len]; exact h1.2⟩
set_option maxHeartbeats 4000000 in
theorem lFnTruth_ok (v u : Value) (code more : List UInt8) (hcl : code.length ≤ 140737488355328) (hml : more.length ≤ 140737488355328) (w : World) (h : Sq fU 1 w v code) (h' : Sq fU 1 w u more) : Fn 3 [v, u] w (fun r _ => r = .bool true) := by
  (refine callsV_of mix Tryz.func3 c_lFnTruth ?_; simp only [↓vsd, vsn, gW, qd, qv, ev, pick, argE, zipE, ne_eq, eq_self, forall_const, implies_true, if_true, if_false, reduceIte, reduceCtorEq, Nat.reduceEqDiff, Nat.reduceAdd, Nat.reduceLT, ↓us_lFnTruth, r_lFnTruth])
  simp only [↓vsd, vsn, gW, qd, qv, ev, pick, argE, zipE, ne_eq, eq_self, forall_const, implies_true, if_true, if_false, reduceIte, reduceCtorEq, Nat.reduceEqDiff, Nat.reduceAdd, Nat.reduceLT, ↓us_lFnTruth, r_lFnTruth, h.facts, h'.facts]
  refine ⟨inR_i64 (by omega), fun _ => Ext.refl _, fun hsm => ?_⟩
  have hlen : code.length ≤ 1048576 ∧ more.length ≤ 1048576 := by omega
  refine m_call (sDrawTrueByHeads_ok v code hlen.1 _ h) ?_
  rintro _ w1 hx1 ⟨nm, st, x, cs, b, s, t, rfl, ho1, hnm, hst, hcs, hc8, hbs, ht⟩
  simp only [↓vsd, vsn, gW, qd, qv, ev, pick, argE, zipE, ne_eq, eq_self, forall_const, implies_true, if_true, if_false, reduceIte, reduceCtorEq, Nat.reduceEqDiff, Nat.reduceAdd, Nat.reduceLT, ↓us_lFnTruth, r_lFnTruth]
  refine m_al ?_
  rintro bm w2 hbm hblk2 hx2 hs2
  simp only [↓vsd, vsn, gW, qd, qv, ev, pick, argE, zipE, ne_eq, eq_self, forall_const, implies_true, if_true, if_false, reduceIte, reduceCtorEq, Nat.reduceEqDiff, Nat.reduceAdd, Nat.reduceLT, ↓us_lFnTruth, r_lFnTruth]
  refine m_al ?_
  rintro bk w3 hbk hblk3 hx3 hs3
  simp only [↓vsd, vsn, gW, qd, qv, ev, pick, argE, zipE, ne_eq, eq_self, forall_const, implies_true, if_true, if_false, reduceIte, reduceCtorEq, Nat.reduceEqDiff, Nat.reduceAdd, Nat.reduceLT, ↓us_lFnTruth, r_lFnTruth]
  refine m_st (Blk.ext hblk2 hx3) rfl (Nat.le_refl 3) (fM_one nm st x ho1.sq.one') ?_
  rintro w4 hblk4 hu4
  have hm4 : Blk w4 bm (fM nm st x) 25 := hblk4
  simp only [↓vsd, vsn, gW, qd, qv, ev, pick, argE, zipE, ne_eq, eq_self, forall_const, implies_true, if_true, if_false, reduceIte, reduceCtorEq, Nat.reduceEqDiff, Nat.reduceAdd, Nat.reduceLT, ↓us_lFnTruth, r_lFnTruth]
  refine m_st (hu4.blk hblk3 (by omega)) rfl (Nat.le_refl 2) (fQ_one b s) ?_
  rintro w5 hblk5 hu5
  have hk5 : Blk w5 bk (fQ b s) 27 := hblk5
  have hm5 := hu5.blk hm4 (by omega)
  have ho5 := (((ho1.ext hx2).ext hx3).upd hu4 (ho1.away (by omega))).upd hu5 (ho1.away (by omega))
  have hx5 : Ext w w5 := hu5.below (hu4.below ((hx1.trans hx2).trans hx3) (by have := hx1.size; omega)) (by have := hx1.size; omega)
  have hnm' : nm.length ≤ 1048576 := by omega
  have hc8' : ∀ c ∈ cs, c.length ≤ 1048576 := fun c hc => by have := hc8 c hc; omega
  have hcs' : cs.length ≤ 1000000000 := by omega
  have hbs' : b.length ≤ 1048576 ∧ s.length ≤ 1048576 := by omega
  have ht' : t.length ≤ 1000000000 := by omega
  simp only [↓vsd, vsn, gW, qd, qv, ev, pick, argE, zipE, ne_eq, eq_self, forall_const, implies_true, if_true, if_false, reduceIte, reduceCtorEq, Nat.reduceEqDiff, Nat.reduceAdd, Nat.reduceLT, ↓us_lFnTruth, r_lFnTruth, hm5.facts, hk5.facts, fMg, fQg]
  refine m_call (iTrueByHeads_ok nm st x cs b s t hnm' hc8' hcs' hbs' ht' _ ho5.sq) ?_
  rintro _ w6 hx6 rfl
  have hm6 := hm5.ext hx6
  have hk6 := hk5.ext hx6
  have ho6 := ho5.ext hx6
  simp only [↓vsd, vsn, gW, qd, qv, ev, pick, argE, zipE, ne_eq, eq_self, forall_const, implies_true, if_true, if_false, reduceIte, reduceCtorEq, Nat.reduceEqDiff, Nat.reduceAdd, Nat.reduceLT, ↓us_lFnTruth, r_lFnTruth, hm6.facts, hk6.facts, fMg, fQg]
  refine m_call (sTrueByHeads_ok nm st x cs b s t hnm' hc8' hcs' hbs' ht' _ ho6.sq) ?_
  rintro _ w7 hx7 rfl
  have hm7 := hm6.ext hx7
  have hk7 := hk6.ext hx7
  have ho7 := ho6.ext hx7
  simp only [↓vsd, vsn, gW, qd, qv, ev, pick, argE, zipE, ne_eq, eq_self, forall_const, implies_true, if_true, if_false, reduceIte, reduceCtorEq, Nat.reduceEqDiff, Nat.reduceAdd, Nat.reduceLT, ↓us_lFnTruth, r_lFnTruth, hm7.facts, hk7.facts, fMg, fQg]
  refine m_call (iFirstClash_ok nm st x cs b s t hnm' hc8' hcs' hbs' ht' _ ho7.sq) ?_
  rintro _ w8 hx8 ⟨y8, rfl, hq8⟩
  have hm8 := hm7.ext hx8
  have hk8 := hk7.ext hx8
  have ho8 := ho7.ext hx8
  simp only [↓vsd, vsn, gW, qd, qv, ev, pick, argE, zipE, ne_eq, eq_self, forall_const, implies_true, if_true, if_false, reduceIte, reduceCtorEq, Nat.reduceEqDiff, Nat.reduceAdd, Nat.reduceLT, ↓us_lFnTruth, r_lFnTruth, hm8.facts, hk8.facts, fMg, fQg]
  refine m_call (sFirstClash_ok nm st x cs b s t hnm' hc8' hcs' hbs' ht' _ ho8.sq) ?_
  rintro _ w9 hx9 ⟨y9, rfl, hq9⟩
  have hx59 := ((hx6.trans hx7).trans hx8).trans hx9
  have hx09 := hx5.trans hx59
  simp only [↓vsd, vsn, gW, qd, qv, ev, pick, argE, zipE, ne_eq, eq_self, forall_const, implies_true, if_true, if_false, reduceIte, reduceCtorEq, Nat.reduceEqDiff, Nat.reduceAdd, Nat.reduceLT, ↓us_lFnTruth, r_lFnTruth]
  refine m_call (sDrawClashesIn_ok u more hlen.2 _ (by first | exact h'.ext hx09 | exact h'.ext (dr hx09))) ?_
  rintro _ w10 hx10 ⟨nm2, st2, x2, cs2, y, l, rfl, hqm, hql, hnm2, hcs2, hc82, hl⟩
  simp only [↓vsd, vsn, gW, qd, qv, ev, pick, argE, zipE, ne_eq, eq_self, forall_const, implies_true, if_true, if_false, reduceIte, reduceCtorEq, Nat.reduceEqDiff, Nat.reduceAdd, Nat.reduceLT, ↓us_lFnTruth, r_lFnTruth]
  refine m_al ?_
  rintro bu w11 hbu hblk11 hx11 hs11
  simp only [↓vsd, vsn, gW, qd, qv, ev, pick, argE, zipE, ne_eq, eq_self, forall_const, implies_true, if_true, if_false, reduceIte, reduceCtorEq, Nat.reduceEqDiff, Nat.reduceAdd, Nat.reduceLT, ↓us_lFnTruth, r_lFnTruth]
  refine m_st hblk11 rfl (Nat.le_refl 3) (fM_one nm2 st2 x2 hqm.one') ?_
  rintro w12 hblk12 hu12
  have hM12 : Blk w12 bu (fM nm2 st2 x2) 25 := hblk12
  have hx1012 : Ext w10 w12 := hu12.below hx11 (by omega)
  have hq12 := hqm.ext hx1012
  have hl12 := hql.ext hx1012
  simp only [↓vsd, vsn, gW, qd, qv, ev, pick, argE, zipE, ne_eq, eq_self, forall_const, implies_true, if_true, if_false, reduceIte, reduceCtorEq, Nat.reduceEqDiff, Nat.reduceAdd, Nat.reduceLT, ↓us_lFnTruth, r_lFnTruth, hM12.facts, fMg]
  refine m_call (iClashesIn_ok nm2 st2 x2 y cs2 l (by omega) (fun c hc => by have := hc82 c hc; omega) (by omega) (by omega) _ hq12 hl12) ?_
  rintro _ w13 hx13 ⟨y13, rfl, hq13⟩
  have hM13 := hM12.ext hx13
  simp only [↓vsd, vsn, gW, qd, qv, ev, pick, argE, zipE, ne_eq, eq_self, forall_const, implies_true, if_true, if_false, reduceIte, reduceCtorEq, Nat.reduceEqDiff, Nat.reduceAdd, Nat.reduceLT, ↓us_lFnTruth, r_lFnTruth, hM13.facts, fMg]
  refine m_call (sClashesIn_ok nm2 st2 x2 y cs2 l (by omega) (fun c hc => by have := hc82 c hc; omega) (by omega) (by omega) _ (hq12.ext hx13) (hl12.ext hx13)) ?_
  rintro _ w14 hx14 ⟨y14, rfl, hq14⟩
  have hx1014 := (hx1012.trans hx13).trans hx14
  have hx914 := hx10.trans hx1014
  have hx014 := hx09.trans hx914
  have hm14 := hm8.ext (hx9.trans hx914)
  have hk14 := hk8.ext (hx9.trans hx914)
  have ho14 := ho8.ext (hx9.trans hx914)
  have hq8 := hq8.ext (hx9.trans hx914)
  have hq9 := hq9.ext hx914
  have hq13 := hq13.ext hx14
  have hfl : (fcV nm st cs b s t).length ≤ 1000000 := by
    unfold fcV; split
    · rename_i hF
      obtain ⟨i, _, e⟩ := bst_is (L := clT st.toNat cs b s t) ((clT st.toNat cs b s t).length - 1)
      have h0 := hF.2
      rw [show (clT st.toNat cs b s t).length - 1 + 1 = (clT st.toNat cs b s t).length by omega] at e
      rw [e]
      by_cases hi : i < (clT st.toNat cs b s t).length
      · have := (prs_pr (clP st.toNat cs (headsP st.toNat cs b s t t.length)) (headsP st.toNat cs b s t t.length).length (headsP st.toNat cs b s t t.length).length).1 i hi
        exact Nat.le_trans (Nat.le_of_eq this) (by decide)
      · rw [List.getD_eq_getElem?_getD, List.getElem?_eq_none (by omega)]; simp
    · simp
  have hcl2 : (clV nm2 st2 cs2 l).length ≤ 1000000 ∧ ∀ x ∈ clV nm2 st2 cs2 l, x.length ≤ 1000000 := by
    unfold clV; split
    · rename_i hC
      refine ⟨Nat.le_trans (prs_len _ _ _) (Nat.le_trans (Nat.mul_le_mul hC.2.1.2 hC.2.1.2) (by decide)), fun x hx => ?_⟩
      obtain ⟨i, _, hi⟩ := List.mem_flatMap.1 hx
      obtain ⟨k, rfl⟩ := prRow_mem hi
      simp
    · simp
  simp only [↓vsd, vsn, gW, qd, qv, ev, pick, argE, zipE, ne_eq, eq_self, forall_const, implies_true, if_true, if_false, reduceIte, reduceCtorEq, Nat.reduceEqDiff, Nat.reduceAdd, Nat.reduceLT, ↓us_lFnTruth, r_lFnTruth]
  refine m_call (lqSameN_ok y8 y9 _ _ _ hq8 hq9 (by omega)) ?_
  rintro _ w15 hx15 rfl
  simp only [↓vsd, vsn, gW, qd, qv, ev, pick, argE, zipE, ne_eq, eq_self, forall_const, implies_true, if_true, if_false, reduceIte, reduceCtorEq, Nat.reduceEqDiff, Nat.reduceAdd, Nat.reduceLT, ↓us_lFnTruth, r_lFnTruth]
  refine m_call (lqSameP_ok y13 y14 _ _ hcl2.1 hcl2.2 _ (hq13.ext hx15) (hq14.ext hx15) rfl) ?_
  rintro _ w16 hx16 rfl
  have hx1416 := hx15.trans hx16
  have hm16 := hm14.ext hx1416
  have hk16 := hk14.ext hx1416
  have ho16 := ho14.ext hx1416
  have hx016 := hx014.trans hx1416
  by_cases hM : IsMT nm st cs b s t
  · obtain ⟨n, rfl⟩ : ∃ n : Nat, st = n := ⟨st.toNat, by omega⟩
    have hMd := decide_eq_true hM
    simp only [↓vsd, vsn, gW, qd, qv, ev, pick, argE, zipE, ne_eq, eq_self, forall_const, implies_true, if_true, if_false, reduceIte, reduceCtorEq, Nat.reduceEqDiff, Nat.reduceAdd, Nat.reduceLT, ↓us_lFnTruth, r_lFnTruth, hMd, hm16.facts, fMg]
    refine m_call (sIsLeadTrue_ok nm n x cs hM.1.1 hnm' hc8' _ ho16.sq) ?_
    rintro _ w17 hx17 rfl
    have hm17 := hm16.ext hx17
    have hk17 := hk16.ext hx17
    have ho17 := ho16.ext hx17
    have hx017 := hx016.trans hx17
    have hT : tbhV nm n cs b s t = decide (TrueT n cs b s t) := by rw [tbhV, hMd, Bool.true_and, Int.toNat_natCast]
    have hcl := hM.1.1.2.2.1
    have ht60 := hM.2.1
    by_cases hN : (leadR n cs).Nodup
    · have hNd : decide (leadR n cs).Nodup = true := decide_eq_true hN
      have hTF : tbhV nm n cs b s t = !decide (FcOk nm n cs b s t) := by
        rw [hT, ← decide_not]
        refine decide_eq_decide.2 ⟨fun h hF => hF.2 h.2, fun h => ⟨hN, Decidable.not_not.1 fun h0 => h ⟨hM, h0⟩⟩⟩
      have hTX : decide (rowsT n cs b s t).Nodup = !decide (FcOk nm n cs b s t) := by
        rw [← hTF, hT]
        exact decide_eq_decide.2 (trueT_iff hM).symm
      simp only [↓vsd, vsn, gW, qd, qv, ev, pick, argE, zipE, ne_eq, eq_self, forall_const, implies_true, if_true, if_false, reduceIte, reduceCtorEq, Nat.reduceEqDiff, Nat.reduceAdd, Nat.reduceLT, ↓us_lFnTruth, r_lFnTruth, hNd, hTF, hm17.facts, hk17.facts, fMg, fQg]
      refine m_call (iTouchRows_ok nm n x cs b s t hnm' hc8' hcs' hbs' ht' _ ho17.sq) ?_
      rintro _ w18 hx18 ⟨yr, rfl, hor⟩
      have hm18 := hm17.ext hx18
      have ho18 := ho17.ext hx18
      have hx018 := hx017.trans hx18
      by_cases hR : RowsOk nm n cs b s t
      · have hRd := decide_eq_true hR
        rw [rowsV, if_pos hR, Int.toNat_natCast] at hor
        have hrl : (rowsT n cs b s t).length = t.length * cs.length := by rw [rowsT, leadsL_len, headsP_len]
        have h800 := hR.2
        have hrr := rowsT_rows hM
        have hIR : IsRows (rowsT n cs b s t) := ⟨fun r hr => ⟨(hrr r hr).1, by rw [(hrr r hr).2, (hrr _ (getD_mem [] (List.length_pos_of_mem hr))).2]⟩, by omega⟩
        have hIRd : decide (IsRows (rowsT n cs b s t)) = true := decide_eq_true hIR
        have hIN : decide (IsRows (rowsT n cs b s t) ∧ (rowsT n cs b s t).Nodup) = decide (rowsT n cs b s t).Nodup := decide_eq_decide.2 ⟨fun h => h.2, fun h => ⟨hIR, h⟩⟩
        simp only [↓vsd, vsn, gW, qd, qv, ev, pick, argE, zipE, ne_eq, eq_self, forall_const, implies_true, if_true, if_false, reduceIte, reduceCtorEq, Nat.reduceEqDiff, Nat.reduceAdd, Nat.reduceLT, ↓us_lFnTruth, r_lFnTruth, hRd]
        refine m_call (sIsTrueList_ok yr _ (by omega) _ hor.sq) ?_
        rintro _ w19 hx19 rfl
        rw [trueV, hIRd, hIN]
        simp only [↓vsd, vsn, gW, qd, qv, ev, pick, argE, zipE, ne_eq, eq_self, forall_const, implies_true, if_true, if_false, reduceIte, reduceCtorEq, Nat.reduceEqDiff, Nat.reduceAdd, Nat.reduceLT, ↓us_lFnTruth, r_lFnTruth, hTX]
        exact hx018.trans hx19
      · have hRd := decide_eq_false hR
        have hmulI : (t.length : Int) * cs.length = ((t.length * cs.length : Nat) : Int) := (Int.natCast_mul _ _).symm
        have hqm := ho18.sq
        have h800 : 800 < t.length * cs.length := Nat.lt_of_not_le fun hh => hR ⟨hM, hh⟩
        have hb : t.length * cs.length ≤ 3000 := Nat.le_trans (Nat.mul_le_mul ht60.2 hcl.2) (by decide)
        have h800I : (800 : Int) < ((t.length * cs.length : Nat) : Int) := by omega
        simp only [↓vsd, vsn, gW, qd, qv, ev, pick, argE, zipE, ne_eq, eq_self, forall_const, implies_true, if_true, if_false, reduceIte, reduceCtorEq, Nat.reduceEqDiff, Nat.reduceAdd, Nat.reduceLT, ↓us_lFnTruth, r_lFnTruth, hRd, hm18.facts, fMg, hqm.facts, hmulI, h800I]
        exact ⟨inR_i64 (by omega), hx018⟩
    · have hNd : decide (leadR n cs).Nodup = false := decide_eq_false hN
      have hTF : tbhV nm n cs b s t = false := by rw [hT]; exact decide_eq_false fun h => hN h.1
      have hTX : decide (rowsT n cs b s t).Nodup = false := by
        rw [← hTF, hT]
        exact decide_eq_decide.2 (trueT_iff hM).symm
      simp only [↓vsd, vsn, gW, qd, qv, ev, pick, argE, zipE, ne_eq, eq_self, forall_const, implies_true, if_true, if_false, reduceIte, reduceCtorEq, Nat.reduceEqDiff, Nat.reduceAdd, Nat.reduceLT, ↓us_lFnTruth, r_lFnTruth, hNd, hTF, hm17.facts, hk17.facts, fMg, fQg]
      refine m_call (iTouchRows_ok nm n x cs b s t hnm' hc8' hcs' hbs' ht' _ ho17.sq) ?_
      rintro _ w18 hx18 ⟨yr, rfl, hor⟩
      have hm18 := hm17.ext hx18
      have ho18 := ho17.ext hx18
      have hx018 := hx017.trans hx18
      by_cases hR : RowsOk nm n cs b s t
      · have hRd := decide_eq_true hR
        rw [rowsV, if_pos hR, Int.toNat_natCast] at hor
        have hrl : (rowsT n cs b s t).length = t.length * cs.length := by rw [rowsT, leadsL_len, headsP_len]
        have h800 := hR.2
        have hrr := rowsT_rows hM
        have hIR : IsRows (rowsT n cs b s t) := ⟨fun r hr => ⟨(hrr r hr).1, by rw [(hrr r hr).2, (hrr _ (getD_mem [] (List.length_pos_of_mem hr))).2]⟩, by omega⟩
        have hIRd : decide (IsRows (rowsT n cs b s t)) = true := decide_eq_true hIR
        have hIN : decide (IsRows (rowsT n cs b s t) ∧ (rowsT n cs b s t).Nodup) = decide (rowsT n cs b s t).Nodup := decide_eq_decide.2 ⟨fun h => h.2, fun h => ⟨hIR, h⟩⟩
        simp only [↓vsd, vsn, gW, qd, qv, ev, pick, argE, zipE, ne_eq, eq_self, forall_const, implies_true, if_true, if_false, reduceIte, reduceCtorEq, Nat.reduceEqDiff, Nat.reduceAdd, Nat.reduceLT, ↓us_lFnTruth, r_lFnTruth, hRd]
        refine m_call (sIsTrueList_ok yr _ (by omega) _ hor.sq) ?_
        rintro _ w19 hx19 rfl
        rw [trueV, hIRd, hIN]
        simp only [↓vsd, vsn, gW, qd, qv, ev, pick, argE, zipE, ne_eq, eq_self, forall_const, implies_true, if_true, if_false, reduceIte, reduceCtorEq, Nat.reduceEqDiff, Nat.reduceAdd, Nat.reduceLT, ↓us_lFnTruth, r_lFnTruth, hTX]
        exact hx018.trans hx19
      · have hRd := decide_eq_false hR
        have hmulI : (t.length : Int) * cs.length = ((t.length * cs.length : Nat) : Int) := (Int.natCast_mul _ _).symm
        have hqm := ho18.sq
        have h800 : 800 < t.length * cs.length := Nat.lt_of_not_le fun hh => hR ⟨hM, hh⟩
        have hb : t.length * cs.length ≤ 3000 := Nat.le_trans (Nat.mul_le_mul ht60.2 hcl.2) (by decide)
        have h800I : (800 : Int) < ((t.length * cs.length : Nat) : Int) := by omega
        simp only [↓vsd, vsn, gW, qd, qv, ev, pick, argE, zipE, ne_eq, eq_self, forall_const, implies_true, if_true, if_false, reduceIte, reduceCtorEq, Nat.reduceEqDiff, Nat.reduceAdd, Nat.reduceLT, ↓us_lFnTruth, r_lFnTruth, hRd, hm18.facts, fMg, hqm.facts, hmulI, h800I]
        exact ⟨inR_i64 (by omega), hx018⟩
  · have hMd := decide_eq_false hM
    simp only [↓vsd, vsn, gW, qd, qv, ev, pick, argE, zipE, ne_eq, eq_self, forall_const, implies_true, if_true, if_false, reduceIte, reduceCtorEq, Nat.reduceEqDiff, Nat.reduceAdd, Nat.reduceLT, ↓us_lFnTruth, r_lFnTruth, hMd]
    exact hx016
end Go.Proofs.YthopbkemkfjebaaGreat
