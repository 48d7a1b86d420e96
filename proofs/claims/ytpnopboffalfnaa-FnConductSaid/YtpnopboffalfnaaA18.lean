/-
  The transposition of a coursing order by a call, of both sides.
  Conditions: none.
-/
import Derived.Test.YtpnopboffalfnaaA31
import Derived.Test.YtpnopboffalfnaaA29
import Derived.Test.YtpnopboffalfnaaA12
set_option linter.unusedSimpArgs false
set_option linter.unusedVariables false
set_option linter.defProp false
namespace Go.Proofs.Ytpnopboffalfnaa
open Go Go.RowKit
section
variable (P : Program) (k : KT) (e : Env) (w : World)
abbrev b262_1 : X := (.cond (.t 19) (.seq (.reg [6, 7] (.c (.q 6 [] (.mv (.c (.slice none 0 0)))) (.c (.q 7 [] (.mv (.c (.bool false)))) .nil))) .ret) .skip)
def t262_1 := b262_1
theorem u262_1 : vcK P t262_1 k e w = vcK P b262_1 k e w := rfl
abbrev b262_2 : X := (.reg [9, 10, 11, 28, 29] (.c (.q 32 [] (.mv (.t 11))) (.c (.q 33 [] (.mv (.t 9))) (.c (.q 34 [] (.mv (.t 10))) (.c (.q 35 [] (.mv (.t 12))) (.c (.q 36 [] (.idx (.t 34) (.t 35))) (.c (.q 37 [] (.bin .sub (.t 36) (.c (.int .u8 48)))) (.c (.q 38 [] (.cvi .i64 (.t 37))) (.c (.e (some 39) [] (.call false 290 [(.t 33), (.t 38)])) (.c (.q 40 [] (.bin .sub (.t 39) (.c (.int .i64 1)))) (.c (.e (some 41) [] (.bsl 3 1 [(.t 40)])) (.c (.e (some 42) [] (.app 69 3 1 8 [(.int .i64 0)] 69 (.t 32) (.t 41))) (.c (.q 11 [] (.mv (.t 42))) .nil)))))))))))))
def t262_2 := b262_2
theorem u262_2 : vcK P t262_2 k e w = vcK P b262_2 k e w := rfl
abbrev b262_3 : X := (.reg [9, 10, 11, 28, 29] (.c (.q 43 [] (.bin .add (.t 29) (.c (.int .i64 1)))) (.c (.q 29 [] (.mv (.t 43))) .nil)))
def t262_3 := b262_3
theorem u262_3 : vcK P t262_3 k e w = vcK P b262_3 k e w := rfl
abbrev b262_4 : X := (.seq (.blk 1 (.seq (.reg [9, 10, 11, 12, 28, 29] (.c (.q 31 [] (.mv (.t 29))) (.c (.q 12 [] (.mv (.t 31))) .nil))) t262_2)) t262_3)
def t262_4 := b262_4
theorem u262_4 : vcK P t262_4 k e w = vcK P b262_4 k e w := rfl
abbrev b262_5 : X := (.seq (.cond (.t 30) .skip (.exit 0)) t262_4)
def t262_5 := b262_5
theorem u262_5 : vcK P t262_5 k e w = vcK P b262_5 k e w := rfl
abbrev b262_6 : X := (.seq (.reg [9, 10, 11, 28, 29, 30] (.c (.q 30 [] (.bin .lss (.t 29) (.t 28))) .nil)) t262_5)
def t262_6 := b262_6
theorem u262_6 : vcK P t262_6 k e w = vcK P b262_6 k e w := rfl
abbrev b262_7 : X := (.blk 0 (.loop [11, 29] [9, 10, 28] t262_6))
def t262_7 := b262_7
theorem u262_7 : vcK P t262_7 k e w = vcK P b262_7 k e w := rfl
abbrev b262_8 : X := (.seq (.reg [6, 7] (.c (.q 44 [] (.mv (.t 11))) (.c (.q 6 [] (.mv (.t 44))) (.c (.q 7 [] (.mv (.c (.bool true)))) .nil)))) .ret)
def t262_8 := b262_8
theorem u262_8 : vcK P t262_8 k e w = vcK P b262_8 k e w := rfl
abbrev b262_9 : X := (.seq (.seq (.reg [9, 10, 11, 28, 29] (.c (.q 27 [] (.mv (.t 10))) (.c (.q 28 [] (.len (.t 27))) (.c (.q 29 [] (.mv (.c (.int .i64 0)))) .nil)))) t262_7) t262_8)
def t262_9 := b262_9
theorem u262_9 : vcK P t262_9 k e w = vcK P b262_9 k e w := rfl
abbrev b262_10 : X := (.seq (.reg [9, 10, 11] (.c (.e (some 26) [] (.bsl 3 1 [])) (.c (.q 11 [] (.mv (.t 26))) .nil))) t262_9)
def t262_10 := b262_10
theorem u262_10 : vcK P t262_10 k e w = vcK P b262_10 k e w := rfl
abbrev b262_11 : X := (.seq (.reg [9, 10] (.c (.q 24 [] (.mv (.t 8))) (.c (.e (some 25) [] (.call false 261 [(.t 24)])) (.c (.q 10 [] (.mv (.t 25))) .nil)))) t262_10)
def t262_11 := b262_11
theorem u262_11 : vcK P t262_11 k e w = vcK P b262_11 k e w := rfl
abbrev b262_12 : X := (.seq (.reg [8, 9] (.c (.q 20 [] (.fa 1 (.t 3))) (.c (.q 21 [] (.ld (.t 20))) (.c (.e (some 22) [] (.call false 178 [(.t 21)])) (.c (.e (some 23) [] (.call false 261 [(.t 22)])) (.c (.q 9 [] (.mv (.t 23))) .nil)))))) t262_11)
def t262_12 := b262_12
theorem u262_12 : vcK P t262_12 k e w = vcK P b262_12 k e w := rfl
abbrev b262_13 : X := (.seq (.seq (.reg [3, 8, 19] (.c (.q 17 [] (.mv (.t 8))) (.c (.q 18 [] (.idx (.t 17) (.c (.int .i64 0)))) (.c (.q 19 [] (.bin .neq (.t 18) (.c (.int .u8 49)))) .nil)))) t262_1) t262_12)
def t262_13 := b262_13
theorem u262_13 : vcK P t262_13 k e w = vcK P b262_13 k e w := rfl
abbrev b262_14 : X := (.seq (.reg [3, 8] (.c (.q 13 [] (.lda 3 (.t 3))) (.c (.q 14 [] (.lda 2 (.t 4))) (.c (.q 15 [] (.mv (.t 2))) (.c (.e (some 16) [] (.call false 248 [(.t 13), (.t 14), (.t 15)])) (.c (.q 8 [] (.mv (.t 16))) .nil)))))) t262_13)
def t262_14 := b262_14
theorem u262_14 : vcK P t262_14 k e w = vcK P b262_14 k e w := rfl
abbrev b262_0 : X := (.seq (.reg [2, 3, 4] (.c (.e (some 3) [] (.box 41 (.t 0))) (.c (.e (some 4) [] (.box 32 (.t 1))) (.c (.q 6 [] (.mv (.c (.slice none 0 0)))) (.c (.q 7 [] (.mv (.c (.bool false)))) .nil))))) t262_14)
def x_icallMoves := b262_0
theorem u262_0 : vcK P x_icallMoves k e w = vcK P b262_0 k e w := rfl
def r_icallMoves : List XO := [(.mv (.t 6)), (.mv (.t 7))]
theorem c_icallMoves : convF Try.prog [169, 170, 207, 208, 210, 227, 232, 233, 255, 259, 268, 269, 270, 280, 281, 296, 299, 306, 307, 309] Try.f262 [([2, 3, 4], []), ([3, 8], []), ([3, 8, 19], []), ([6, 7], []), ([8, 9], []), ([9, 10], []), ([9, 10, 11], []), ([9, 10, 11, 28, 29], []), ([11, 29], [9, 10, 28]), ([9, 10, 11, 28, 29, 30], []), ([9, 10, 11, 12, 28, 29], []), ([9, 10, 11, 28, 29], []), ([9, 10, 11, 28, 29], []), ([6, 7], [])] = some (x_icallMoves, r_icallMoves) := by kernel_rfl
def us_icallMoves := aI @u262_0 (aI @u262_1 (aI @u262_2 (aI @u262_3 (aI @u262_4 (aI @u262_5 (aI @u262_6 (aI @u262_7 (aI @u262_8 (aI @u262_9 (aI @u262_10 (aI @u262_11 (aI @u262_12 (aI @u262_13 @u262_14)))))))))))))
abbrev b144_1 : X := (.cond (.t 21) (.seq (.reg [6, 7] (.c (.q 6 [] (.mv (.c (.slice none 0 0)))) (.c (.q 7 [] (.mv (.c (.bool false)))) .nil))) .ret) .skip)
def t144_1 := b144_1
theorem u144_1 : vcK P t144_1 k e w = vcK P b144_1 k e w := rfl
abbrev b144_2 : X := (.seq (.reg [6, 7] (.c (.q 22 [] (.lda 3 (.t 3))) (.c (.q 23 [] (.lda 2 (.t 4))) (.c (.q 24 [] (.mv (.t 2))) (.c (.e (some 25) [] (.call false 262 [(.t 22), (.t 23), (.t 24)])) (.c (.q 26 [] (.ext 0 (.t 25))) (.c (.q 27 [] (.ext 1 (.t 25))) (.c (.q 6 [] (.mv (.t 26))) (.c (.q 7 [] (.mv (.t 27))) .nil))))))))) .ret)
def t144_2 := b144_2
theorem u144_2 : vcK P t144_2 k e w = vcK P b144_2 k e w := rfl
abbrev b144_3 : X := (.seq (.seq (.reg [2, 3, 4, 21] (.c (.q 8 [] (.lda 3 (.t 3))) (.c (.e (some 9) [] (.call false 260 [(.t 8)])) (.c (.q 10 [] (.not (.t 9))) (.c (.q 11 [] (.mv (.t 10))) (.c (.q 12 [(11, false)] (.lda 3 (.t 3))) (.c (.q 13 [(11, false)] (.lda 2 (.t 4))) (.c (.e (some 14) [(11, false)] (.call false 131 [(.t 12), (.t 13)])) (.c (.q 15 [(11, false)] (.not (.t 14))) (.c (.q 16 [] (.pick (.t 11) (.c (.bool true)) (.t 15))) (.c (.q 17 [] (.mv (.t 16))) (.c (.q 18 [(17, false)] (.mv (.t 2))) (.c (.e (some 19) [(17, false)] (.call false 245 [(.t 18)])) (.c (.q 20 [(17, false)] (.not (.t 19))) (.c (.q 21 [] (.pick (.t 17) (.c (.bool true)) (.t 20))) .nil))))))))))))))) t144_1) t144_2)
def t144_3 := b144_3
theorem u144_3 : vcK P t144_3 k e w = vcK P b144_3 k e w := rfl
abbrev b144_0 : X := (.seq (.reg [2, 3, 4] (.c (.e (some 3) [] (.box 41 (.t 0))) (.c (.e (some 4) [] (.box 32 (.t 1))) (.c (.q 6 [] (.mv (.c (.slice none 0 0)))) (.c (.q 7 [] (.mv (.c (.bool false)))) .nil))))) t144_3)
def x_iCallMoves := b144_0
theorem u144_0 : vcK P x_iCallMoves k e w = vcK P b144_0 k e w := rfl
def r_iCallMoves : List XO := [(.mv (.t 6)), (.mv (.t 7))]
theorem c_iCallMoves : convF Try.prog [169, 170, 207, 208, 210, 227, 232, 233, 255, 259, 268, 269, 270, 280, 281, 296, 299, 306, 307, 309] Try.f144 [([2, 3, 4], []), ([2, 3, 4, 21], []), ([6, 7], []), ([6, 7], [])] = some (x_iCallMoves, r_iCallMoves) := by kernel_rfl
def us_iCallMoves := aI @u144_0 (aI @u144_1 (aI @u144_2 @u144_3))
abbrev b265_1 : X := (.cond (.t 27) (.reg [3, 4, 6, 15, 20] (.c (.q 28 [] (.mv (.t 4))) (.c (.q 29 [] (.mv (.t 7))) (.c (.e (some 30) [] (.bsl 3 1 [(.t 29)])) (.c (.e (some 31) [] (.app 69 3 1 8 [(.int .i64 0)] 69 (.t 28) (.t 30))) (.c (.q 4 [] (.mv (.t 31))) .nil)))))) .skip)
def t265_1 := b265_1
theorem u265_1 : vcK P t265_1 k e w = vcK P b265_1 k e w := rfl
abbrev b265_2 : X := (.seq (.reg [3, 4, 6, 7, 15, 20, 27] (.c (.q 25 [] (.mv (.t 8))) (.c (.q 26 [] (.mv (.t 6))) (.c (.q 27 [] (.bin .eql (.t 25) (.t 26))) .nil)))) t265_1)
def t265_2 := b265_2
theorem u265_2 : vcK P t265_2 k e w = vcK P b265_2 k e w := rfl
abbrev b265_3 : X := (.blk 3 (.seq (.reg [3, 4, 6, 7, 8, 15, 20] (.c (.q 23 [] (.ext 1 (.t 21))) (.c (.q 24 [] (.ext 2 (.t 21))) (.c (.q 7 [] (.mv (.t 23))) (.c (.q 8 [] (.mv (.t 24))) .nil))))) t265_2))
def t265_3 := b265_3
theorem u265_3 : vcK P t265_3 k e w = vcK P b265_3 k e w := rfl
abbrev b265_4 : X := (.seq (.cond (.t 22) .skip (.exit 2)) t265_3)
def t265_4 := b265_4
theorem u265_4 : vcK P t265_4 k e w = vcK P b265_4 k e w := rfl
abbrev b265_5 : X := (.seq (.reg [3, 4, 6, 15, 20, 21, 22] (.c (.e (some 21) [] (.nxt (.t 20))) (.c (.q 22 [] (.ext 0 (.t 21))) .nil))) t265_4)
def t265_5 := b265_5
theorem u265_5 : vcK P t265_5 k e w = vcK P b265_5 k e w := rfl
abbrev b265_6 : X := (.blk 2 (.loop [4] [3, 6, 15, 20] t265_5))
def t265_6 := b265_6
theorem u265_6 : vcK P t265_6 k e w = vcK P b265_6 k e w := rfl
abbrev b265_7 : X := (.seq (.reg [3, 4, 6, 15, 20] (.c (.q 19 [] (.mv (.t 3))) (.c (.e (some 20) [] (.rng (.t 19))) .nil))) t265_6)
def t265_7 := b265_7
theorem u265_7 : vcK P t265_7 k e w = vcK P b265_7 k e w := rfl
abbrev b265_8 : X := (.blk 1 (.seq (.reg [3, 4, 6, 15] (.c (.q 18 [] (.ext 2 (.t 16))) (.c (.q 6 [] (.mv (.t 18))) .nil))) t265_7))
def t265_8 := b265_8
theorem u265_8 : vcK P t265_8 k e w = vcK P b265_8 k e w := rfl
abbrev b265_9 : X := (.seq (.cond (.t 17) .skip (.exit 0)) t265_8)
def t265_9 := b265_9
theorem u265_9 : vcK P t265_9 k e w = vcK P b265_9 k e w := rfl
abbrev b265_10 : X := (.seq (.reg [3, 4, 15, 16, 17] (.c (.e (some 16) [] (.nxt (.t 15))) (.c (.q 17 [] (.ext 0 (.t 16))) .nil))) t265_9)
def t265_10 := b265_10
theorem u265_10 : vcK P t265_10 k e w = vcK P b265_10 k e w := rfl
abbrev b265_11 : X := (.blk 0 (.loop [4] [3, 15] t265_10))
def t265_11 := b265_11
theorem u265_11 : vcK P t265_11 k e w = vcK P b265_11 k e w := rfl
abbrev b265_12 : X := (.seq (.reg [2] (.c (.q 32 [] (.mv (.t 4))) (.c (.q 2 [] (.mv (.t 32))) .nil))) .ret)
def t265_12 := b265_12
theorem u265_12 : vcK P t265_12 k e w = vcK P b265_12 k e w := rfl
abbrev b265_13 : X := (.seq (.seq (.reg [3, 4, 15] (.c (.q 13 [] (.mv (.t 0))) (.c (.e (some 14) [] (.call false 264 [(.t 13)])) (.c (.e (some 15) [] (.rng (.t 14))) .nil)))) t265_11) t265_12)
def t265_13 := b265_13
theorem u265_13 : vcK P t265_13 k e w = vcK P b265_13 k e w := rfl
abbrev b265_14 : X := (.seq (.reg [0, 3, 4] (.c (.q 4 [] (.mv (.c (.slice none 0 0)))) .nil)) t265_13)
def t265_14 := b265_14
theorem u265_14 : vcK P t265_14 k e w = vcK P b265_14 k e w := rfl
abbrev b265_15 : X := (.seq (.reg [0, 3] (.c (.q 9 [] (.mv (.t 0))) (.c (.q 10 [] (.len (.t 9))) (.c (.e (some 11) [] (.call false 165 [(.t 10)])) (.c (.e (some 12) [] (.call false 264 [(.t 11)])) (.c (.q 3 [] (.mv (.t 12))) .nil)))))) t265_14)
def t265_15 := b265_15
theorem u265_15 : vcK P t265_15 k e w = vcK P b265_15 k e w := rfl
abbrev b265_0 : X := (.seq (.reg [0] (.c (.q 2 [] (.mv (.c (.slice none 0 0)))) .nil)) t265_15)
def x_sl15Moves := b265_0
theorem u265_0 : vcK P x_sl15Moves k e w = vcK P b265_0 k e w := rfl
def r_sl15Moves : List XO := [(.mv (.t 2))]
theorem c_sl15Moves : convF Try.prog [169, 170, 207, 208, 210, 227, 232, 233, 255, 259, 268, 269, 270, 280, 281, 296, 299, 306, 307, 309] Try.f265 [([0], []), ([0, 3], []), ([0, 3, 4], []), ([3, 4, 15], []), ([4], [3, 15]), ([3, 4, 15, 16, 17], []), ([3, 4, 6, 15], []), ([3, 4, 6, 15, 20], []), ([4], [3, 6, 15, 20]), ([3, 4, 6, 15, 20, 21, 22], []), ([3, 4, 6, 7, 8, 15, 20], []), ([3, 4, 6, 7, 15, 20, 27], []), ([3, 4, 6, 15, 20], []), ([2], [])] = some (x_sl15Moves, r_sl15Moves) := by kernel_rfl
def us_sl15Moves := aI @u265_0 (aI @u265_1 (aI @u265_2 (aI @u265_3 (aI @u265_4 (aI @u265_5 (aI @u265_6 (aI @u265_7 (aI @u265_8 (aI @u265_9 (aI @u265_10 (aI @u265_11 (aI @u265_12 (aI @u265_13 (aI @u265_14 @u265_15))))))))))))))
abbrev b145_1 : X := (.cond (.t 25) (.seq (.reg [6, 7] (.c (.q 6 [] (.mv (.c (.slice none 0 0)))) (.c (.q 7 [] (.mv (.c (.bool false)))) .nil))) .ret) .skip)
def t145_1 := b145_1
theorem u145_1 : vcK P t145_1 k e w = vcK P b145_1 k e w := rfl
abbrev b145_2 : X := (.seq (.reg [6, 7] (.c (.q 26 [] (.lda 3 (.t 3))) (.c (.q 27 [] (.lda 2 (.t 4))) (.c (.q 28 [] (.mv (.t 2))) (.c (.e (some 29) [] (.call false 220 [(.t 26), (.t 27), (.t 28)])) (.c (.e (some 30) [] (.call false 265 [(.t 29)])) (.c (.q 6 [] (.mv (.t 30))) (.c (.q 7 [] (.mv (.c (.bool true)))) .nil)))))))) .ret)
def t145_2 := b145_2
theorem u145_2 : vcK P t145_2 k e w = vcK P b145_2 k e w := rfl
abbrev b145_3 : X := (.seq (.seq (.reg [2, 3, 4, 25] (.c (.q 8 [] (.lda 3 (.t 3))) (.c (.e (some 9) [] (.call false 263 [(.t 8)])) (.c (.q 10 [] (.not (.t 9))) (.c (.q 11 [] (.mv (.t 10))) (.c (.q 12 [(11, false)] (.lda 3 (.t 3))) (.c (.q 13 [(11, false)] (.lda 2 (.t 4))) (.c (.q 14 [(11, false)] (.mv (.t 2))) (.c (.e (some 15) [(11, false)] (.call false 219 [(.t 12), (.t 13), (.t 14)])) (.c (.q 16 [(11, false)] (.not (.t 15))) (.c (.q 17 [] (.pick (.t 11) (.c (.bool true)) (.t 16))) (.c (.q 18 [] (.mv (.t 17))) (.c (.q 19 [(18, false)] (.lda 3 (.t 3))) (.c (.q 20 [(18, false)] (.lda 2 (.t 4))) (.c (.q 21 [(18, false)] (.mv (.t 2))) (.c (.e (some 22) [(18, false)] (.call false 220 [(.t 19), (.t 20), (.t 21)])) (.c (.q 23 [(18, false)] (.idx (.t 22) (.c (.int .i64 0)))) (.c (.q 24 [(18, false)] (.bin .neq (.t 23) (.c (.int .u8 49)))) (.c (.q 25 [] (.pick (.t 18) (.c (.bool true)) (.t 24))) .nil))))))))))))))))))) t145_1) t145_2)
def t145_3 := b145_3
theorem u145_3 : vcK P t145_3 k e w = vcK P b145_3 k e w := rfl
abbrev b145_0 : X := (.seq (.reg [2, 3, 4] (.c (.e (some 3) [] (.box 41 (.t 0))) (.c (.e (some 4) [] (.box 32 (.t 1))) (.c (.q 6 [] (.mv (.c (.slice none 0 0)))) (.c (.q 7 [] (.mv (.c (.bool false)))) .nil))))) t145_3)
def x_sCallMoves := b145_0
theorem u145_0 : vcK P x_sCallMoves k e w = vcK P b145_0 k e w := rfl
def r_sCallMoves : List XO := [(.mv (.t 6)), (.mv (.t 7))]
theorem c_sCallMoves : convF Try.prog [169, 170, 207, 208, 210, 227, 232, 233, 255, 259, 268, 269, 270, 280, 281, 296, 299, 306, 307, 309] Try.f145 [([2, 3, 4], []), ([2, 3, 4, 25], []), ([6, 7], []), ([6, 7], [])] = some (x_sCallMoves, r_sCallMoves) := by kernel_rfl
def us_sCallMoves := aI @u145_0 (aI @u145_1 (aI @u145_2 @u145_3))
end

/-- The coursing order of rounds. -/
def wholeL (n : Nat) : List UInt8 := courseL (roundsL n)
/-- The place of a bell in the coursing order of rounds. -/
def posC (n : Nat) (b : UInt8) : Nat := (wholeL n).findIdx fun x => x == b
theorem whole_len : ∀ n < 9, (wholeL n).length = n - 1 := by decide
theorem whole_low : ∀ n < 9, ∀ c ∈ wholeL n, 50 ≤ c.toNat ∧ c.toNat ≤ 56 := by decide
theorem whole_pos : ∀ n < 9, ∀ v < 9, 2 ≤ v → v ≤ n → posC n (UInt8.ofNat (48 + v)) < (wholeL n).length := by decide +kernel
theorem whole_at : ∀ n < 9, ∀ v < 9, 2 ≤ v → v ≤ n → ∀ i < (wholeL n).length, decide ((wholeL n).getD i 0 = UInt8.ofNat (48 + v)) = decide (i = posC n (UInt8.ofNat (48 + v))) := by decide +kernel
def movesL (h : List UInt8) : List Nat := (courseL h).map (posC h.length)
theorem course_len (h : List UInt8) (hl : h.length < 9) : (courseL h).length = h.length - 1 := by rw [courseL, List.length_map, cou_len _ hl]
/-- The bells of a coursing order. -/
theorem course_get {h : List UInt8} (hr : IsRow h) (h1 : h.getD 0 0 = 49) (i : Nat) (hi : i < (courseL h).length) : ∃ v, 2 ≤ v ∧ v ≤ h.length ∧ (courseL h).getD i 0 = UInt8.ofNat (48 + v) := by
  have h8 := hr.1
  have hlt : i < (coursingL h.length).length := by simpa [courseL] using hi
  have hp := cou_in _ (by omega) i hlt
  rw [courseL, getD_map _ 0 _ _ _ hlt]
  obtain ⟨q, hq⟩ : ∃ q : Nat, (coursingL h.length).getD i 0 = (q + 1 : Nat) := ⟨((coursingL h.length).getD i 0).toNat - 1, by omega⟩
  rw [hq] at hp ⊢
  rw [Int.toNat_natCast, Nat.add_sub_cancel]
  have hlow := hr.low (i := q) (by omega)
  have hhigh := hr.high (i := q) (by omega)
  have hne := (hr.2 q (by omega)).2.2 0 (by omega)
  rw [h1] at hne
  have hn : (h.getD q 0).toNat ≠ 49 := fun e => hne (UInt8.toNat_inj.1 (by rw [e]; rfl))
  refine ⟨(h.getD q 0).toNat - 48, by omega, by omega, ?_⟩
  rw [show 48 + ((h.getD q 0).toNat - 48) = (h.getD q 0).toNat by omega]
  exact u8_eq rfl
theorem course_low {h : List UInt8} (hr : IsRow h) : ∀ c ∈ courseL h, 49 ≤ c.toNat ∧ c.toNat ≤ 56 := fun c hc => by
  have h8 := hr.1
  simp only [courseL, List.mem_map] at hc
  obtain ⟨p, hp, rfl⟩ := hc
  obtain ⟨i, hi, rfl⟩ := List.getElem_of_mem hp
  have hp := cou_in _ (by omega) i hi
  rw [List.getD_eq_getElem?_getD, List.getElem?_eq_getElem hi, Option.getD_some] at hp
  have hlow := hr.low (i := ((coursingL h.length)[i]).toNat - 1) (by omega)
  have hhigh := hr.high (i := ((coursingL h.length)[i]).toNat - 1) (by omega)
  omega
def moveV (nm : List UInt8) (st : Int) (cs : List (List UInt8)) (b s call : List UInt8) : Prop := (IsLarge nm st cs ∧ IsMC nm st cs b s ∧ IsCall call) ∧ (headC st.toNat cs b s call).getD 0 0 = 49
instance (nm : List UInt8) (st : Int) (cs : List (List UInt8)) (b s call : List UInt8) : Decidable (moveV nm st cs b s call) := by unfold moveV; infer_instance
def movesI (h : List UInt8) : List Int := (movesL h).map fun p : Nat => (p : Int)
theorem movesI_len (h : List UInt8) (hl : h.length < 9) : (movesI h).length = h.length - 1 := by rw [movesI, List.length_map, movesL, List.length_map, course_len h hl]
theorem movesI_get (h : List UInt8) (i : Nat) (hi : i < (courseL h).length) : (movesI h).getD i 0 = (posC h.length ((courseL h).getD i 0) : Nat) := by
  rw [movesI, movesL, List.map_map, getD_map _ 0 _ _ _ hi]; rfl
theorem whole_get {n v : Nat} (hn : n < 9) (h2 : 2 ≤ v) (hv : v ≤ n) {i : Nat} (hi : i < (wholeL n).length) : (wholeL n).getD i 0 = UInt8.ofNat (48 + v) ↔ i = posC n (UInt8.ofNat (48 + v)) :=
  decide_eq_decide.1 (whole_at n hn v (by omega) h2 hv i hi)
theorem place_whole {n v p : Nat} (hn : n < 9) (h2 : 2 ≤ v) (hv : v ≤ n) (h : PlaceIs (wholeL n) v p) : p = posC n (UInt8.ofNat (48 + v)) + 1 := by
  have hp := whole_pos n hn v (by omega) h2 hv
  have e48 : (UInt8.ofNat (48 + v)).toNat = 48 + v := u8_nat (by omega)
  rcases h with ⟨rfl, hno⟩ | ⟨h1, hle, he, _⟩
  · have := (whole_get hn h2 hv hp).2 rfl
    have hc := hno _ hp
    rw [this, e48] at hc
    omega
  · have : (wholeL n).getD (p - 1) 0 = UInt8.ofNat (48 + v) := UInt8.toNat_inj.1 (by omega)
    have := (whole_get hn h2 hv (i := p - 1) (by omega)).1 this
    omega
theorem icallMoves_ok (nm : List UInt8) (st : Nat) (v : Value) (cs : List (List UInt8)) (b s call : List UInt8) (hm : IsMC nm st cs b s) (h4 : 4 ≤ st) (w : World) (h : Sq fS 1 w v cs) :
    Fn 262 [mV nm st v, kV b s, S call] w (fun r w' => ∃ x, r = .tuple ⟨[x, .bool (decide ((headC st cs b s call).getD 0 0 = 49))]⟩ ∧ Own fI 1 3 w.heap.size w' x (if (headC st cs b s call).getD 0 0 = 49 then movesI (headC st cs b s call) else [])) := by
  (refine callsV_of mix Try.func262 c_icallMoves ?_; simp only [↓vsd, vsn, gW, qd, qv, ev, pick, argE, zipE, ne_eq, eq_self, forall_const, implies_true, if_true, if_false, reduceIte, reduceCtorEq, Nat.reduceEqDiff, Nat.reduceAdd, Nat.reduceLT, ↓us_icallMoves, r_icallMoves])
  refine m_al ?_
  rintro b1 w1 hb1 hblk1 hx1 hs1
  have h1 : Blk w1 b1 (fM nm st v) 41 := hblk1
  simp only [↓vsd, vsn, gW, qd, qv, ev, pick, argE, zipE, ne_eq, eq_self, forall_const, implies_true, if_true, if_false, reduceIte, reduceCtorEq, Nat.reduceEqDiff, Nat.reduceAdd, Nat.reduceLT, ↓us_icallMoves, r_icallMoves, h1.facts, fMg]
  refine m_al ?_
  rintro b2 w2 hb2 hblk2 hx2 hs2
  have h2 : Blk w2 b2 (fQ b s) 32 := hblk2
  have h12 := h1.ext hx2
  have hx12 := hx1.trans hx2
  simp only [↓vsd, vsn, gW, qd, qv, ev, pick, argE, zipE, ne_eq, eq_self, forall_const, implies_true, if_true, if_false, reduceIte, reduceCtorEq, Nat.reduceEqDiff, Nat.reduceAdd, Nat.reduceLT, ↓us_icallMoves, r_icallMoves, h12.facts, h2.facts, fMg, fQg]
  refine m_call (icallHead_ok nm st v cs b s call hm _ (h.ext hx12)) ?_
  rintro _ w3 hx3 rfl
  have h13 := h12.ext hx3
  have hx13 := hx12.trans hx3
  obtain ⟨hr, hl⟩ := headC_row hm call
  have h8 := hr.1
  generalize hh : headC st cs b s call = h' at hr hl h8 ⊢
  have e49 : (((h'.getD 0 0).toNat : Int) = 49) = (h'.getD 0 0 = 49) := propext ⟨fun e => UInt8.toNat_inj.1 (by show _ = 49; omega), fun e => by rw [e]; rfl⟩
  simp only [↓vsd, vsn, gW, qd, qv, ev, pick, argE, zipE, ne_eq, eq_self, forall_const, implies_true, if_true, if_false, reduceIte, reduceCtorEq, Nat.reduceEqDiff, Nat.reduceAdd, Nat.reduceLT, ↓us_icallMoves, r_icallMoves, h13.facts, fMg, e49]
  refine ⟨by omega, fun hne => ⟨hx13, ?_⟩, fun he => ?_⟩
  · rw [decide_eq_false hne, if_neg hne]
    exact ⟨_, rfl, Own.nil fI_len⟩
  · rw [if_pos he, decide_eq_true he]
    refine m_call (irounds_ok st (by omega) _) ?_
    rintro _ w4 hx4 rfl
    simp only [↓vsd, vsn, gW, qd, qv, ev, pick, argE, zipE, ne_eq, eq_self, forall_const, implies_true, if_true, if_false, reduceIte, reduceCtorEq, Nat.reduceEqDiff, Nat.reduceAdd, Nat.reduceLT, ↓us_icallMoves, r_icallMoves]
    refine m_call (icourseOf_ok (roundsL st) (by rw [roundsL_len]; omega) (by rw [roundsL_len]; omega) _) ?_
    rintro _ w5 hx5 rfl
    simp only [↓vsd, vsn, gW, qd, qv, ev, pick, argE, zipE, ne_eq, eq_self, forall_const, implies_true, if_true, if_false, reduceIte, reduceCtorEq, Nat.reduceEqDiff, Nat.reduceAdd, Nat.reduceLT, ↓us_icallMoves, r_icallMoves]
    refine m_call (icourseOf_ok h' (by omega) (by omega) _) ?_
    rintro _ w6 hx6 rfl
    have hx16 := ((hx13.trans hx4).trans hx5).trans hx6
    have hcl := course_len h' (by omega)
    simp only [↓vsd, vsn, gW, qd, qv, ev, pick, argE, zipE, ne_eq, eq_self, forall_const, implies_true, if_true, if_false, reduceIte, reduceCtorEq, Nat.reduceEqDiff, Nat.reduceAdd, Nat.reduceLT, ↓us_icallMoves, r_icallMoves, hcl]
    refine m_bsl (by simp) ?_
    rintro b7 w7 hb7 hblk7 hx7 hs7
    simp only [↓vsd, vsn, gW, qd, qv, ev, pick, argE, zipE, ne_eq, eq_self, forall_const, implies_true, if_true, if_false, reduceIte, reduceCtorEq, Nat.reduceEqDiff, Nat.reduceAdd, Nat.reduceLT, ↓us_icallMoves, r_icallMoves]
    have hx17 := hx16.trans hx7
    refine m_upto (courseL h').length (fun i vs w' => ∃ x, vs = [x, .int .i64 i] ∧ Own fI 1 3 w.heap.size w' x ((movesI h').take i) ∧ Ext w w') ⟨_, rfl, (Own.empty fI_len hblk7 (by have := hx16.size; omega)).to (by simp), hx17⟩ ?_
    rintro i vs wi hi ⟨x, rfl, hox, hxi⟩
    by_cases hlt : i < (courseL h').length
    · have hltI : (i : Int) < (courseL h').length := by omega
      have hltJ : ¬ ((courseL h').length : Int) ≤ i := by omega
      obtain ⟨v', hv2, hvl, hget⟩ := course_get hr he i hlt
      have e48 : ((UInt8.ofNat (48 + v')).toNat : Int) - 48 = (v' : Nat) := by rw [u8_nat (by omega)]; omega
      simp only [↓vsd, vsn, gW, qd, qv, ev, pick, argE, zipE, ne_eq, eq_self, forall_const, implies_true, if_true, if_false, reduceIte, reduceCtorEq, Nat.reduceEqDiff, Nat.reduceAdd, Nat.reduceLT, ↓us_icallMoves, r_icallMoves, hltI, hltJ, hget, e48]
      refine ⟨by omega, inR_u8 (by omega), inR_i64 (by omega), ?_⟩
      have hwl := whole_len st (by omega)
      refine m_call (iplaceOf_ok (courseL (roundsL st)) v' (by show (wholeL st).length ≤ 1000000; omega) (fun c hc => by have := whole_low st (by omega) c hc; omega) _) ?_
      rintro _ wj hxj ⟨p, rfl, hp⟩
      have hp := place_whole (n := st) (by omega) hv2 (by omega) hp
      have hpI : (p : Int) - 1 = (posC st (UInt8.ofNat (48 + v')) : Nat) := by omega
      simp only [↓vsd, vsn, gW, qd, qv, ev, pick, argE, zipE, ne_eq, eq_self, forall_const, implies_true, if_true, if_false, reduceIte, reduceCtorEq, Nat.reduceEqDiff, Nat.reduceAdd, Nat.reduceLT, ↓us_icallMoves, r_icallMoves, hpI]
      have hpl := whole_pos st (by omega) v' (by omega) hv2 (by omega)
      refine ⟨inR_i64 (by omega), m_bsl (one_el rfl) ?_⟩
      rintro bk wk hbk hblkk hxk hsk
      simp only [↓vsd, vsn, gW, qd, qv, ev, pick, argE, zipE, ne_eq, eq_self, forall_const, implies_true, if_true, if_false, reduceIte, reduceCtorEq, Nat.reduceEqDiff, Nat.reduceAdd, Nat.reduceLT, ↓us_icallMoves, r_icallMoves]
      have hxj := hxj
      have hok := (hox.ext hxj).ext hxk
      have hml := movesI_len h' (by omega)
      refine m_app hok (Sq.one fI_len hblkk rfl) fI_one (by decide) (by rw [List.length_take]; simp; omega) (by decide) (((hxi.trans hxj).trans hxk).size) ?_
      rintro x2 wl hol hgl
      have hxl := hok.grown ((hxi.trans hxj).trans hxk) (Nat.le_refl _) hgl
      simp only [↓vsd, vsn, gW, qd, qv, ev, pick, argE, zipE, ne_eq, eq_self, forall_const, implies_true, if_true, if_false, reduceIte, reduceCtorEq, Nat.reduceEqDiff, Nat.reduceAdd, Nat.reduceLT, ↓us_icallMoves, r_icallMoves]
      refine ⟨inR_i64 (by omega), UpTo.next hlt ⟨x2, rfl, hol.to ?_, hxl⟩⟩
      rw [List.take_add_one, List.getElem?_eq_getElem (by omega)]
      have hg := movesI_get h' i hlt
      rw [List.getD_eq_getElem?_getD, List.getElem?_eq_getElem (by omega), Option.getD_some, hget, hl] at hg
      rw [hg]
      rfl
    · obtain rfl : i = (courseL h').length := by omega
      have hltI : ¬ ((courseL h').length : Int) < (courseL h').length := by omega
      simp only [↓vsd, vsn, gW, qd, qv, ev, pick, argE, zipE, ne_eq, eq_self, forall_const, implies_true, if_true, if_false, reduceIte, reduceCtorEq, Nat.reduceEqDiff, Nat.reduceAdd, Nat.reduceLT, ↓us_icallMoves, r_icallMoves, hltI]
      exact ⟨hxi, x, rfl, hox.to (by rw [List.take_of_length_le (by rw [movesI_len h' (by omega), hcl]; exact Nat.le_refl _)])⟩
theorem sl15Moves_ok (h : List UInt8) (hr : IsRow h) (h1 : h.getD 0 0 = 49) (h4 : 4 ≤ h.length) (w : World) : Fn 265 [S h] w (fun r w' => Own fI 1 3 w.heap.size w' r (movesI h)) := by
  (refine callsV_of mix Try.func265 c_sl15Moves ?_; simp only [↓vsd, vsn, gW, qd, qv, ev, pick, argE, zipE, ne_eq, eq_self, forall_const, implies_true, if_true, if_false, reduceIte, reduceCtorEq, Nat.reduceEqDiff, Nat.reduceAdd, Nat.reduceLT, ↓us_sl15Moves, r_sl15Moves])
  have h8 := hr.1
  refine m_call (sl1Rounds_ok h.length (by omega) _) ?_
  rintro _ w1 hx1 rfl
  simp only [↓vsd, vsn, gW, qd, qv, ev, pick, argE, zipE, ne_eq, eq_self, forall_const, implies_true, if_true, if_false, reduceIte, reduceCtorEq, Nat.reduceEqDiff, Nat.reduceAdd, Nat.reduceLT, ↓us_sl15Moves, r_sl15Moves]
  refine m_call (sl15Course_ok (roundsL h.length) (by rw [roundsL_len]; omega) (by rw [roundsL_len]; omega) _) ?_
  rintro _ w2 hx2 rfl
  simp only [↓vsd, vsn, gW, qd, qv, ev, pick, argE, zipE, ne_eq, eq_self, forall_const, implies_true, if_true, if_false, reduceIte, reduceCtorEq, Nat.reduceEqDiff, Nat.reduceAdd, Nat.reduceLT, ↓us_sl15Moves, r_sl15Moves]
  refine m_call (sl15Course_ok h (by omega) (by omega) _) ?_
  rintro _ w3 hx3 rfl
  have hx13 := (hx1.trans hx2).trans hx3
  simp only [↓vsd, vsn, gW, qd, qv, ev, pick, argE, zipE, ne_eq, eq_self, forall_const, implies_true, if_true, if_false, reduceIte, reduceCtorEq, Nat.reduceEqDiff, Nat.reduceAdd, Nat.reduceLT, ↓us_sl15Moves, r_sl15Moves]
  refine m_rng ?_
  rintro b4 w4 hb4 hit4 hx4 hs4
  have hx14 := hx13.trans hx4
  simp only [↓vsd, vsn, gW, qd, qv, ev, pick, argE, zipE, ne_eq, eq_self, forall_const, implies_true, if_true, if_false, reduceIte, reduceCtorEq, Nat.reduceEqDiff, Nat.reduceAdd, Nat.reduceLT, ↓us_sl15Moves, r_sl15Moves]
  have h128 : ∀ c ∈ courseL h, c.toNat < 128 := fun c hc => by have := course_low hr c hc; omega
  have hcl := course_len h (by omega)
  have hml := movesI_len h (by omega)
  have hwl := whole_len h.length (by omega)
  refine m_upto (courseL h).length (fun i vs w' => ∃ x, vs = [x] ∧ Own fI 1 3 w.heap.size w' x ((movesI h).take i) ∧ Ext w w' ∧ Itr w' b4 (courseL h) i ∧ Away x b4) ⟨_, rfl, (Own.nil fI_len).to (by simp), hx14, hit4, Away.nil _⟩ ?_
  rintro i vs w5 hi ⟨x, rfl, hox, hx5, hit5, haw5⟩
  simp only [↓vsd, vsn, gW, qd, qv, ev, pick, argE, zipE, ne_eq, eq_self, forall_const, implies_true, if_true, if_false, reduceIte, reduceCtorEq, Nat.reduceEqDiff, Nat.reduceAdd, Nat.reduceLT, ↓us_sl15Moves, r_sl15Moves]
  refine m_nxt hit5 h128 ?_ ?_
  · intro hlt w6 hit6 hu6
    obtain ⟨v', hv2, hvl, hget⟩ := course_get hr h1 i hlt
    have hpl := whole_pos h.length (by omega) v' (by omega) hv2 hvl
    have hox6 := hox.upd hu6 haw5
    have hx6 : Ext w w6 := hu6.below hx5 (by have := hx13.size; omega)
    simp only [↓vsd, vsn, gW, qd, qv, ev, pick, argE, zipE, ne_eq, eq_self, forall_const, implies_true, if_true, if_false, reduceIte, reduceCtorEq, Nat.reduceEqDiff, Nat.reduceAdd, Nat.reduceLT, ↓us_sl15Moves, r_sl15Moves, hget]
    refine m_rng ?_
    rintro b7 w7 hb7 hit7 hx7 hs7
    simp only [↓vsd, vsn, gW, qd, qv, ev, pick, argE, zipE, ne_eq, eq_self, forall_const, implies_true, if_true, if_false, reduceIte, reduceCtorEq, Nat.reduceEqDiff, Nat.reduceAdd, Nat.reduceLT, ↓us_sl15Moves, r_sl15Moves]
    have h128' : ∀ c ∈ wholeL h.length, c.toNat < 128 := fun c hc => by have := whole_low h.length (by omega) c hc; omega
    refine m_upto (wholeL h.length).length (fun j vs w' => ∃ y, vs = [y] ∧ Own fI 1 3 w.heap.size w' y ((movesI h).take i ++ if posC h.length (UInt8.ofNat (48 + v')) < j then [(posC h.length (UInt8.ofNat (48 + v')) : Int)] else []) ∧ Ext w w' ∧ Itr w' b4 (courseL h) (i + 1) ∧ Away y b4 ∧ Itr w' b7 (wholeL h.length) j ∧ Away y b7)
      ⟨x, rfl, ((hox6.ext hx7).to (by simp)), hx6.trans hx7, hit6.ext hx7, haw5, hit7, hox6.away (by omega)⟩ ?_
    rintro j vs w8 hj ⟨y, rfl, hoy, hx8, hit8, haw8, hitj, hawj⟩
    have h4lt := hit8.lt
    have h7lt := hitj.lt
    have hne47 : b7 ≠ b4 := by have := hit6.lt; omega
    simp only [↓vsd, vsn, gW, qd, qv, ev, pick, argE, zipE, ne_eq, eq_self, forall_const, implies_true, if_true, if_false, reduceIte, reduceCtorEq, Nat.reduceEqDiff, Nat.reduceAdd, Nat.reduceLT, ↓us_sl15Moves, r_sl15Moves]
    refine m_nxt hitj h128' ?_ ?_
    · intro hltj w9 hit9 hu9
      have hoy9 := hoy.upd hu9 hawj
      have hx9 : Ext w w9 := hu9.below hx8 (by have := hx6.size; omega)
      have hit49 := hit8.grown hu9.grown (fun e => hne47 (Option.some.inj e))
      have hjl : j < (wholeL h.length).length := hltj
      have hiff := whole_get (by omega) hv2 hvl hjl
      have e48 := u8_nat (n := 48 + v') (by omega)
      by_cases hjp : j = posC h.length (UInt8.ofNat (48 + v'))
      · have hgj := hiff.2 hjp
        simp only [↓vsd, vsn, gW, qd, qv, ev, pick, argE, zipE, ne_eq, eq_self, forall_const, implies_true, if_true, if_false, reduceIte, reduceCtorEq, Nat.reduceEqDiff, Nat.reduceAdd, Nat.reduceLT, ↓us_sl15Moves, r_sl15Moves, hgj]
        refine m_bsl (one_el rfl) ?_
        rintro bk wk hbk hblkk hxk hsk
        simp only [↓vsd, vsn, gW, qd, qv, ev, pick, argE, zipE, ne_eq, eq_self, forall_const, implies_true, if_true, if_false, reduceIte, reduceCtorEq, Nat.reduceEqDiff, Nat.reduceAdd, Nat.reduceLT, ↓us_sl15Moves, r_sl15Moves]
        have hok := hoy9.ext hxk
        refine m_app2 hok (Sq.one fI_len hblkk rfl) fI_one (by decide) (by rw [if_neg (by omega), List.append_nil, List.length_take]; simp; omega) (by decide) ((hx9.trans hxk).size) ?_
        rintro y2 wl hol hgl hnl
        have hxl := hok.grown (hx9.trans hxk) (Nat.le_refl _) hgl
        simp only [↓vsd, vsn, gW, qd, qv, ev, pick, argE, zipE, ne_eq, eq_self, forall_const, implies_true, if_true, if_false, reduceIte, reduceCtorEq, Nat.reduceEqDiff, Nat.reduceAdd, Nat.reduceLT, ↓us_sl15Moves, r_sl15Moves]
        refine UpTo.next hltj ⟨y2, rfl, hol.to ?_, hxl, (hit49.ext hxk).grown hgl haw8, haw8.next (hit49.ext hxk).lt hnl, (hit9.ext hxk).grown hgl hawj, hawj.next (hit9.ext hxk).lt hnl⟩
        rw [if_neg (by omega), List.append_nil, if_pos (by omega), hjp]
      · have hgj : ¬ (wholeL h.length).getD j 0 = UInt8.ofNat (48 + v') := fun e => hjp (hiff.1 e)
        have hgI : ¬ (((wholeL h.length).getD j 0).toNat : Int) = ((UInt8.ofNat (48 + v')).toNat : Nat) := fun e => hgj (UInt8.toNat_inj.1 (by omega))
        simp only [↓vsd, vsn, gW, qd, qv, ev, pick, argE, zipE, ne_eq, eq_self, forall_const, implies_true, if_true, if_false, reduceIte, reduceCtorEq, Nat.reduceEqDiff, Nat.reduceAdd, Nat.reduceLT, ↓us_sl15Moves, r_sl15Moves, hgI]
        refine UpTo.next hltj ⟨y, rfl, hoy9.to ?_, hx9, hit49, haw8, hit9, hawj⟩
        by_cases hlj : posC h.length (UInt8.ofNat (48 + v')) < j
        · rw [if_pos hlj, if_pos (by omega)]
        · rw [if_neg hlj, if_neg (by omega)]
    · intro hge
      simp only [↓vsd, vsn, gW, qd, qv, ev, pick, argE, zipE, ne_eq, eq_self, forall_const, implies_true, if_true, if_false, reduceIte, reduceCtorEq, Nat.reduceEqDiff, Nat.reduceAdd, Nat.reduceLT, ↓us_sl15Moves, r_sl15Moves]
      refine UpTo.next hlt ⟨y, rfl, hoy.to ?_, hx8, hit8, haw8⟩
      rw [if_pos (by omega), List.take_add_one, List.getElem?_eq_getElem (by omega)]
      have hg := movesI_get h i hlt
      rw [List.getD_eq_getElem?_getD, List.getElem?_eq_getElem (by omega), Option.getD_some, hget] at hg
      rw [hg]
      rfl
  · intro hge
    simp only [↓vsd, vsn, gW, qd, qv, ev, pick, argE, zipE, ne_eq, eq_self, forall_const, implies_true, if_true, if_false, reduceIte, reduceCtorEq, Nat.reduceEqDiff, Nat.reduceAdd, Nat.reduceLT, ↓us_sl15Moves, r_sl15Moves]
    exact ⟨hx5, hox.to (by rw [List.take_of_length_le (by omega)])⟩
theorem head_char {l : List UInt8} : (((l.getD 0 0).toNat : Int) = 49) = (l.getD 0 0 = 49) := propext ⟨fun e => UInt8.toNat_inj.1 (by show _ = 49; omega), fun e => by rw [e]; rfl⟩
theorem iCallMoves_ok (nm : List UInt8) (st : Int) (v : Value) (cs : List (List UInt8)) (b s call : List UInt8) (hnm : nm.length ≤ 1048576) (hs : ∀ c ∈ cs, c.length ≤ 1048576) (hl : cs.length ≤ 1000000000) (hb : b.length ≤ 1048576 ∧ s.length ≤ 1048576) (w : World) (h : Sq fS 1 w v cs) :
    Fn 144 [mV nm st v, kV b s, S call] w (fun r w' => ∃ x, r = .tuple ⟨[x, .bool (decide (moveV nm st cs b s call))]⟩ ∧ Own fI 1 3 w.heap.size w' x (if moveV nm st cs b s call then movesI (headC st.toNat cs b s call) else [])) := by
  (refine callsV_of mix Try.func144 c_iCallMoves ?_; simp only [↓vsd, vsn, gW, qd, qv, ev, pick, argE, zipE, ne_eq, eq_self, forall_const, implies_true, if_true, if_false, reduceIte, reduceCtorEq, Nat.reduceEqDiff, Nat.reduceAdd, Nat.reduceLT, ↓us_iCallMoves, r_iCallMoves])
  refine m_al ?_
  rintro b1 w1 hb1 hblk1 hx1 hs1
  have h1 : Blk w1 b1 (fM nm st v) 41 := hblk1
  simp only [↓vsd, vsn, gW, qd, qv, ev, pick, argE, zipE, ne_eq, eq_self, forall_const, implies_true, if_true, if_false, reduceIte, reduceCtorEq, Nat.reduceEqDiff, Nat.reduceAdd, Nat.reduceLT, ↓us_iCallMoves, r_iCallMoves, h1.facts, fMg]
  refine m_al ?_
  rintro b2 w2 hb2 hblk2 hx2 hs2
  have h2 : Blk w2 b2 (fQ b s) 32 := hblk2
  have h12 := h1.ext hx2
  have hx12 := hx1.trans hx2
  simp only [↓vsd, vsn, gW, qd, qv, ev, pick, argE, zipE, ne_eq, eq_self, forall_const, implies_true, if_true, if_false, reduceIte, reduceCtorEq, Nat.reduceEqDiff, Nat.reduceAdd, Nat.reduceLT, ↓us_iCallMoves, r_iCallMoves, h12.facts, h2.facts, fMg, fQg]
  have hno : ¬ moveV nm st cs b s call → ∀ w', ∃ x, Value.tuple ⟨[.slice none 0 0, .bool false]⟩ = .tuple ⟨[x, .bool (decide (moveV nm st cs b s call))]⟩ ∧ Own fI 1 3 w.heap.size w' x (if moveV nm st cs b s call then movesI (headC st.toNat cs b s call) else []) := fun hn w' =>
    ⟨_, by rw [decide_eq_false hn], by rw [if_neg hn]; exact Own.nil fI_len⟩
  refine m_call (iisLarge_ok nm st v cs hnm hs hl _ (h.ext hx12)) ?_
  rintro _ w3 hx3 rfl
  have hx13 := hx12.trans hx3
  have h13 := h12.ext hx3
  have h23 := h2.ext hx3
  by_cases hL : IsLarge nm st cs
  · simp only [↓vsd, vsn, gW, qd, qv, ev, pick, argE, zipE, ne_eq, eq_self, forall_const, implies_true, if_true, if_false, reduceIte, reduceCtorEq, Nat.reduceEqDiff, Nat.reduceAdd, Nat.reduceLT, ↓us_iCallMoves, r_iCallMoves, hL, h13.facts, h23.facts, fMg, fQg]
    refine m_call (iGoodCalls_ok nm st v cs b s hnm hs hl hb _ (h.ext hx13)) ?_
    rintro _ w4 hx4 rfl
    have hx14 := hx13.trans hx4
    have h14 := h13.ext hx4
    have h24 := h23.ext hx4
    by_cases hM : IsMC nm st cs b s
    · simp only [↓vsd, vsn, gW, qd, qv, ev, pick, argE, zipE, ne_eq, eq_self, forall_const, implies_true, if_true, if_false, reduceIte, reduceCtorEq, Nat.reduceEqDiff, Nat.reduceAdd, Nat.reduceLT, ↓us_iCallMoves, r_iCallMoves, hM, h14.facts, h24.facts, fMg, fQg]
      refine m_call (iisCall_okc call _) ?_
      rintro _ w5 hx5 rfl
      have hx15 := hx14.trans hx5
      have h15 := h14.ext hx5
      have h25 := h24.ext hx5
      by_cases hC : IsCall call
      · obtain ⟨n, rfl⟩ : ∃ n : Nat, st = n := ⟨st.toNat, by have := hM.1.2.1; omega⟩
        simp only [↓vsd, vsn, gW, qd, qv, ev, pick, argE, zipE, ne_eq, eq_self, forall_const, implies_true, if_true, if_false, reduceIte, reduceCtorEq, Nat.reduceEqDiff, Nat.reduceAdd, Nat.reduceLT, ↓us_iCallMoves, r_iCallMoves, hC, h15.facts, h25.facts, fMg, fQg]
        refine m_call (icallMoves_ok nm n v cs b s call hM (by have := hL.2; omega) _ (h.ext hx15)) ?_
        rintro _ w6 hx6 ⟨x, rfl, ho⟩
        simp only [↓vsd, vsn, gW, qd, qv, ev, pick, argE, zipE, ne_eq, eq_self, forall_const, implies_true, if_true, if_false, reduceIte, reduceCtorEq, Nat.reduceEqDiff, Nat.reduceAdd, Nat.reduceLT, ↓us_iCallMoves, r_iCallMoves]
        have e : moveV nm n cs b s call = ((headC n cs b s call).getD 0 0 = 49) := propext ⟨fun h => h.2, fun h => ⟨⟨hL, hM, hC⟩, h⟩⟩
        exact ⟨hx15.trans hx6, x, by simp only [e], (ho.mono hx15.size).to (by simp only [e, Int.toNat_natCast])⟩
      · simp only [↓vsd, vsn, gW, qd, qv, ev, pick, argE, zipE, ne_eq, eq_self, forall_const, implies_true, if_true, if_false, reduceIte, reduceCtorEq, Nat.reduceEqDiff, Nat.reduceAdd, Nat.reduceLT, ↓us_iCallMoves, r_iCallMoves, hC]
        exact ⟨hx15, hno (fun hh => hC hh.1.2.2) _⟩
    · simp only [↓vsd, vsn, gW, qd, qv, ev, pick, argE, zipE, ne_eq, eq_self, forall_const, implies_true, if_true, if_false, reduceIte, reduceCtorEq, Nat.reduceEqDiff, Nat.reduceAdd, Nat.reduceLT, ↓us_iCallMoves, r_iCallMoves, hM]
      exact ⟨hx14, hno (fun hh => hM hh.1.2.1) _⟩
  · simp only [↓vsd, vsn, gW, qd, qv, ev, pick, argE, zipE, ne_eq, eq_self, forall_const, implies_true, if_true, if_false, reduceIte, reduceCtorEq, Nat.reduceEqDiff, Nat.reduceAdd, Nat.reduceLT, ↓us_iCallMoves, r_iCallMoves, hL]
    exact ⟨hx13, hno (fun hh => hL hh.1.1) _⟩
theorem sCallMoves_ok (nm : List UInt8) (st : Int) (v : Value) (cs : List (List UInt8)) (b s call : List UInt8) (hnm : nm.length ≤ 1048576) (hs : ∀ c ∈ cs, c.length ≤ 1048576) (hl : cs.length ≤ 1000000000) (hb : b.length ≤ 1048576 ∧ s.length ≤ 1048576) (w : World) (h : Sq fS 1 w v cs) :
    Fn 145 [mV nm st v, kV b s, S call] w (fun r w' => ∃ x, r = .tuple ⟨[x, .bool (decide (moveV nm st cs b s call))]⟩ ∧ Own fI 1 3 w.heap.size w' x (if moveV nm st cs b s call then movesI (headC st.toNat cs b s call) else [])) := by
  (refine callsV_of mix Try.func145 c_sCallMoves ?_; simp only [↓vsd, vsn, gW, qd, qv, ev, pick, argE, zipE, ne_eq, eq_self, forall_const, implies_true, if_true, if_false, reduceIte, reduceCtorEq, Nat.reduceEqDiff, Nat.reduceAdd, Nat.reduceLT, ↓us_sCallMoves, r_sCallMoves])
  refine m_al ?_
  rintro b1 w1 hb1 hblk1 hx1 hs1
  have h1 : Blk w1 b1 (fM nm st v) 41 := hblk1
  simp only [↓vsd, vsn, gW, qd, qv, ev, pick, argE, zipE, ne_eq, eq_self, forall_const, implies_true, if_true, if_false, reduceIte, reduceCtorEq, Nat.reduceEqDiff, Nat.reduceAdd, Nat.reduceLT, ↓us_sCallMoves, r_sCallMoves, h1.facts, fMg]
  refine m_al ?_
  rintro b2 w2 hb2 hblk2 hx2 hs2
  have h2 : Blk w2 b2 (fQ b s) 32 := hblk2
  have h12 := h1.ext hx2
  have hx12 := hx1.trans hx2
  simp only [↓vsd, vsn, gW, qd, qv, ev, pick, argE, zipE, ne_eq, eq_self, forall_const, implies_true, if_true, if_false, reduceIte, reduceCtorEq, Nat.reduceEqDiff, Nat.reduceAdd, Nat.reduceLT, ↓us_sCallMoves, r_sCallMoves, h12.facts, h2.facts, fMg, fQg]
  have hno : ¬ moveV nm st cs b s call → ∀ w', ∃ x, Value.tuple ⟨[.slice none 0 0, .bool false]⟩ = .tuple ⟨[x, .bool (decide (moveV nm st cs b s call))]⟩ ∧ Own fI 1 3 w.heap.size w' x (if moveV nm st cs b s call then movesI (headC st.toNat cs b s call) else []) := fun hn w' =>
    ⟨_, by rw [decide_eq_false hn], by rw [if_neg hn]; exact Own.nil fI_len⟩
  refine m_call (sl15Good_ok nm st v cs hnm hs hl _ (h.ext hx12)) ?_
  rintro _ w3 hx3 rfl
  have hx13 := hx12.trans hx3
  have h13 := h12.ext hx3
  have h23 := h2.ext hx3
  by_cases hL : IsLarge nm st cs
  · simp only [↓vsd, vsn, gW, qd, qv, ev, pick, argE, zipE, ne_eq, eq_self, forall_const, implies_true, if_true, if_false, reduceIte, reduceCtorEq, Nat.reduceEqDiff, Nat.reduceAdd, Nat.reduceLT, ↓us_sCallMoves, r_sCallMoves, hL, h13.facts, h23.facts, fMg, fQg]
    refine m_call (sl8Asked_ok nm st v cs b s call hnm hs hl hb _ (h.ext hx13)) ?_
    rintro _ w4 hx4 rfl
    have hx14 := hx13.trans hx4
    have h14 := h13.ext hx4
    have h24 := h23.ext hx4
    by_cases hM : IsMC nm st cs b s ∧ IsCall call
    · obtain ⟨n, rfl⟩ : ∃ n : Nat, st = n := ⟨st.toNat, by have := hM.1.1.2.1; omega⟩
      obtain ⟨hr, hrl⟩ := headC_row hM.1 call
      have h8 := hr.1
      have hn4 := hL.2
      simp only [↓vsd, vsn, gW, qd, qv, ev, pick, argE, zipE, ne_eq, eq_self, forall_const, implies_true, if_true, if_false, reduceIte, reduceCtorEq, Nat.reduceEqDiff, Nat.reduceAdd, Nat.reduceLT, ↓us_sCallMoves, r_sCallMoves, hM, h14.facts, h24.facts, fMg, fQg]
      refine m_call (sl8Head_ok nm n v cs b s call hM.1 _ (h.ext hx14)) ?_
      rintro _ w5 hx5 rfl
      have hx15 := hx14.trans hx5
      have h15 := h14.ext hx5
      have h25 := h24.ext hx5
      have e : moveV nm n cs b s call = ((headC n cs b s call).getD 0 0 = 49) := propext ⟨fun h => h.2, fun h => ⟨⟨hL, hM.1, hM.2⟩, h⟩⟩
      have hlI : 0 < ((headC n cs b s call).length : Int) := by omega
      by_cases he : (headC n cs b s call).getD 0 0 = 49
      · have heI : (((headC n cs b s call).getD 0 0).toNat : Int) = 49 := by rw [he]; rfl
        simp only [↓vsd, vsn, gW, qd, qv, ev, pick, argE, zipE, ne_eq, eq_self, forall_const, implies_true, if_true, if_false, reduceIte, reduceCtorEq, Nat.reduceEqDiff, Nat.reduceAdd, Nat.reduceLT, ↓us_sCallMoves, r_sCallMoves, heI, hlI, h15.facts, h25.facts, fMg, fQg]
        refine ⟨by omega, m_call (sl8Head_ok nm n v cs b s call hM.1 _ (h.ext hx15)) ?_⟩
        rintro _ w6 hx6 rfl
        simp only [↓vsd, vsn, gW, qd, qv, ev, pick, argE, zipE, ne_eq, eq_self, forall_const, implies_true, if_true, if_false, reduceIte, reduceCtorEq, Nat.reduceEqDiff, Nat.reduceAdd, Nat.reduceLT, ↓us_sCallMoves, r_sCallMoves]
        refine m_call (sl15Moves_ok _ hr he (by omega) _) ?_
        rintro x w7 hx7 ho7
        simp only [↓vsd, vsn, gW, qd, qv, ev, pick, argE, zipE, ne_eq, eq_self, forall_const, implies_true, if_true, if_false, reduceIte, reduceCtorEq, Nat.reduceEqDiff, Nat.reduceAdd, Nat.reduceLT, ↓us_sCallMoves, r_sCallMoves]
        exact ⟨(hx15.trans hx6).trans hx7, x, by simp only [e, he, decide_true], (ho7.mono (hx15.trans hx6).size).to (by simp only [e, he, if_true, Int.toNat_natCast])⟩
      · have heI : ¬ (((headC n cs b s call).getD 0 0).toNat : Int) = 49 := fun hh => he (by rw [← head_char]; exact hh)
        simp only [↓vsd, vsn, gW, qd, qv, ev, pick, argE, zipE, ne_eq, eq_self, forall_const, implies_true, if_true, if_false, reduceIte, reduceCtorEq, Nat.reduceEqDiff, Nat.reduceAdd, Nat.reduceLT, ↓us_sCallMoves, r_sCallMoves, heI, hlI, h15.facts, h25.facts, fMg, fQg]
        exact ⟨by omega, hx15, hno (fun hh => he hh.2) _⟩
    · simp only [↓vsd, vsn, gW, qd, qv, ev, pick, argE, zipE, ne_eq, eq_self, forall_const, implies_true, if_true, if_false, reduceIte, reduceCtorEq, Nat.reduceEqDiff, Nat.reduceAdd, Nat.reduceLT, ↓us_sCallMoves, r_sCallMoves, hM]
      exact ⟨hx14, hno (fun hh => hM ⟨hh.1.2.1, hh.1.2.2⟩) _⟩
  · simp only [↓vsd, vsn, gW, qd, qv, ev, pick, argE, zipE, ne_eq, eq_self, forall_const, implies_true, if_true, if_false, reduceIte, reduceCtorEq, Nat.reduceEqDiff, Nat.reduceAdd, Nat.reduceLT, ↓us_sCallMoves, r_sCallMoves, hL]
    exact ⟨hx13, hno (fun hh => hL hh.1.1) _⟩
end Go.Proofs.Ytpnopboffalfnaa
