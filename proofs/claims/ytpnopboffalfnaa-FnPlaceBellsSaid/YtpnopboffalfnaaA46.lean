/-
  The leads and rows of plain courses, of both sides.
  Conditions: none.
-/
import Derived.Test.YtpnopboffalfnaaA34
import Derived.Test.YtpnopboffalfnaaD7
import Derived.Test.YtpnopboffalfnaaPt
set_option linter.unusedSimpArgs false
set_option linter.unusedVariables false
set_option linter.defProp false
namespace Go.Proofs.Ytpnopboffalfnaa
open Go Go.RowKit
section
variable (P : Program) (k : KT) (e : Env) (w : World)
abbrev b41_1 : X := (.cond (.t 6) (.seq (.reg [2, 3] (.c (.q 2 [] (.mv (.c (.int .i64 0)))) (.c (.q 3 [] (.mv (.c (.bool false)))) .nil))) .ret) .skip)
def t41_1 := b41_1
theorem u41_1 : vcK P t41_1 k e w = vcK P b41_1 k e w := rfl
abbrev b41_2 : X := (.seq (.reg [2, 3] (.c (.q 7 [] (.lda 3 (.t 1))) (.c (.e (some 8) [] (.call false 176 [(.t 7)])) (.c (.e (some 9) [] (.call false 184 [(.t 8)])) (.c (.q 10 [] (.lens (.t 9))) (.c (.q 2 [] (.mv (.t 10))) (.c (.q 3 [] (.mv (.c (.bool true)))) .nil))))))) .ret)
def t41_2 := b41_2
theorem u41_2 : vcK P t41_2 k e w = vcK P b41_2 k e w := rfl
abbrev b41_3 : X := (.seq (.seq (.reg [1, 6] (.c (.q 4 [] (.lda 3 (.t 1))) (.c (.e (some 5) [] (.call false 113 [(.t 4)])) (.c (.q 6 [] (.not (.t 5))) .nil)))) t41_1) t41_2)
def t41_3 := b41_3
theorem u41_3 : vcK P t41_3 k e w = vcK P b41_3 k e w := rfl
abbrev b41_0 : X := (.seq (.reg [1] (.c (.e (some 1) [] (.box 41 (.t 0))) (.c (.q 2 [] (.mv (.c (.int .i64 0)))) (.c (.q 3 [] (.mv (.c (.bool false)))) .nil)))) t41_3)
def x_iLeadsIn := b41_0
theorem u41_0 : vcK P x_iLeadsIn k e w = vcK P b41_0 k e w := rfl
def r_iLeadsIn : List XO := [(.mv (.t 2)), (.mv (.t 3))]
theorem c_iLeadsIn : convF Try.prog [169, 170, 207, 208, 210, 227, 232, 233, 255, 259, 268, 269, 270, 280, 281, 296, 299, 306, 307, 309] Try.f41 [([1], []), ([1, 6], []), ([2, 3], []), ([2, 3], [])] = some (x_iLeadsIn, r_iLeadsIn) := by kernel_rfl
def us_iLeadsIn := aI @u41_0 (aI @u41_1 (aI @u41_2 @u41_3))
abbrev b119_1 : X := (.cond (.t 6) (.seq (.reg [2, 3] (.c (.q 2 [] (.mv (.c (.int .i64 0)))) (.c (.q 3 [] (.mv (.c (.bool false)))) .nil))) .ret) .skip)
def t119_1 := b119_1
theorem u119_1 : vcK P t119_1 k e w = vcK P b119_1 k e w := rfl
abbrev b119_2 : X := (.seq (.reg [2, 3] (.c (.q 7 [] (.lda 3 (.t 1))) (.c (.e (some 8) [] (.call false 240 [(.t 7)])) (.c (.e (some 9) [] (.call false 239 [(.t 8)])) (.c (.q 2 [] (.mv (.t 9))) (.c (.q 3 [] (.mv (.c (.bool true)))) .nil)))))) .ret)
def t119_2 := b119_2
theorem u119_2 : vcK P t119_2 k e w = vcK P b119_2 k e w := rfl
abbrev b119_3 : X := (.seq (.seq (.reg [1, 6] (.c (.q 4 [] (.lda 3 (.t 1))) (.c (.e (some 5) [] (.call false 166 [(.t 4)])) (.c (.q 6 [] (.not (.t 5))) .nil)))) t119_1) t119_2)
def t119_3 := b119_3
theorem u119_3 : vcK P t119_3 k e w = vcK P b119_3 k e w := rfl
abbrev b119_0 : X := (.seq (.reg [1] (.c (.e (some 1) [] (.box 41 (.t 0))) (.c (.q 2 [] (.mv (.c (.int .i64 0)))) (.c (.q 3 [] (.mv (.c (.bool false)))) .nil)))) t119_3)
def x_sLeadsIn := b119_0
theorem u119_0 : vcK P x_sLeadsIn k e w = vcK P b119_0 k e w := rfl
def r_sLeadsIn : List XO := [(.mv (.t 2)), (.mv (.t 3))]
theorem c_sLeadsIn : convF Try.prog [169, 170, 207, 208, 210, 227, 232, 233, 255, 259, 268, 269, 270, 280, 281, 296, 299, 306, 307, 309] Try.f119 [([1], []), ([1, 6], []), ([2, 3], []), ([2, 3], [])] = some (x_sLeadsIn, r_sLeadsIn) := by kernel_rfl
def us_sLeadsIn := aI @u119_0 (aI @u119_1 (aI @u119_2 @u119_3))
abbrev b117_1 : X := (.cond (.t 10) (.seq (.reg [2, 3] (.c (.q 2 [] (.mv (.c (.slice none 0 0)))) (.c (.q 3 [] (.mv (.c (.bool false)))) .nil))) .ret) .skip)
def t117_1 := b117_1
theorem u117_1 : vcK P t117_1 k e w = vcK P b117_1 k e w := rfl
abbrev b117_2 : X := (.cond (.t 20) (.seq (.reg [2, 3] (.c (.q 2 [] (.mv (.c (.slice none 0 0)))) (.c (.q 3 [] (.mv (.c (.bool false)))) .nil))) .ret) .skip)
def t117_2 := b117_2
theorem u117_2 : vcK P t117_2 k e w = vcK P b117_2 k e w := rfl
abbrev b117_3 : X := (.reg [1, 5, 22, 23, 24] (.c (.q 28 [] (.mv (.t 5))) (.c (.q 29 [] (.lda 3 (.t 1))) (.c (.q 30 [] (.mv (.t 7))) (.c (.e (some 31) [] (.call false 157 [(.t 29), (.t 30)])) (.c (.e (some 32) [] (.app 27 9 1 16 [(S [])] 27 (.t 28) (.t 31))) (.c (.q 5 [] (.mv (.t 32))) .nil)))))))
def t117_3 := b117_3
theorem u117_3 : vcK P t117_3 k e w = vcK P b117_3 k e w := rfl
abbrev b117_4 : X := (.reg [1, 5, 22, 23, 24] (.c (.q 33 [] (.bin .add (.t 24) (.c (.int .i64 1)))) (.c (.q 24 [] (.mv (.t 33))) .nil)))
def t117_4 := b117_4
theorem u117_4 : vcK P t117_4 k e w = vcK P b117_4 k e w := rfl
abbrev b117_5 : X := (.seq (.blk 1 (.seq (.reg [1, 5, 7, 22, 23, 24] (.c (.q 26 [] (.ia 1 (.t 22) (.t 24))) (.c (.q 27 [] (.ld (.t 26))) (.c (.q 7 [] (.mv (.t 27))) .nil)))) t117_3)) t117_4)
def t117_5 := b117_5
theorem u117_5 : vcK P t117_5 k e w = vcK P b117_5 k e w := rfl
abbrev b117_6 : X := (.seq (.cond (.t 25) .skip (.exit 0)) t117_5)
def t117_6 := b117_6
theorem u117_6 : vcK P t117_6 k e w = vcK P b117_6 k e w := rfl
abbrev b117_7 : X := (.seq (.reg [1, 5, 22, 23, 24, 25] (.c (.q 25 [] (.bin .lss (.t 24) (.t 23))) .nil)) t117_6)
def t117_7 := b117_7
theorem u117_7 : vcK P t117_7 k e w = vcK P b117_7 k e w := rfl
abbrev b117_8 : X := (.blk 0 (.loop [5, 24] [1, 22, 23] t117_7))
def t117_8 := b117_8
theorem u117_8 : vcK P t117_8 k e w = vcK P b117_8 k e w := rfl
abbrev b117_9 : X := (.seq (.reg [2, 3] (.c (.q 34 [] (.mv (.t 5))) (.c (.q 2 [] (.mv (.t 34))) (.c (.q 3 [] (.mv (.c (.bool true)))) .nil)))) .ret)
def t117_9 := b117_9
theorem u117_9 : vcK P t117_9 k e w = vcK P b117_9 k e w := rfl
abbrev b117_10 : X := (.seq (.seq (.reg [1, 5, 22, 23, 24] (.c (.q 22 [] (.mv (.t 4))) (.c (.q 23 [] (.lens (.t 22))) (.c (.q 24 [] (.mv (.c (.int .i64 0)))) .nil)))) t117_8) t117_9)
def t117_10 := b117_10
theorem u117_10 : vcK P t117_10 k e w = vcK P b117_10 k e w := rfl
abbrev b117_11 : X := (.seq (.reg [1, 4, 5] (.c (.e (some 21) [] (.bsl 9 1 [])) (.c (.q 5 [] (.mv (.t 21))) .nil))) t117_10)
def t117_11 := b117_11
theorem u117_11 : vcK P t117_11 k e w = vcK P b117_11 k e w := rfl
abbrev b117_12 : X := (.seq (.seq (.reg [1, 4, 20] (.c (.q 14 [] (.mv (.t 4))) (.c (.q 15 [] (.lens (.t 14))) (.c (.q 16 [] (.fa 2 (.t 1))) (.c (.q 17 [] (.ld (.t 16))) (.c (.q 18 [] (.lens (.t 17))) (.c (.q 19 [] (.bin .mul (.t 15) (.t 18))) (.c (.q 20 [] (.bin .gtr (.t 19) (.c (.int .i64 800)))) .nil)))))))) t117_2) t117_11)
def t117_12 := b117_12
theorem u117_12 : vcK P t117_12 k e w = vcK P b117_12 k e w := rfl
abbrev b117_13 : X := (.seq (.reg [1, 4] (.c (.q 11 [] (.lda 3 (.t 1))) (.c (.e (some 12) [] (.call false 176 [(.t 11)])) (.c (.e (some 13) [] (.call false 184 [(.t 12)])) (.c (.q 4 [] (.mv (.t 13))) .nil))))) t117_12)
def t117_13 := b117_13
theorem u117_13 : vcK P t117_13 k e w = vcK P b117_13 k e w := rfl
abbrev b117_14 : X := (.seq (.seq (.reg [1, 10] (.c (.q 8 [] (.lda 3 (.t 1))) (.c (.e (some 9) [] (.call false 113 [(.t 8)])) (.c (.q 10 [] (.not (.t 9))) .nil)))) t117_1) t117_13)
def t117_14 := b117_14
theorem u117_14 : vcK P t117_14 k e w = vcK P b117_14 k e w := rfl
abbrev b117_0 : X := (.seq (.reg [1] (.c (.e (some 1) [] (.box 41 (.t 0))) (.c (.q 2 [] (.mv (.c (.slice none 0 0)))) (.c (.q 3 [] (.mv (.c (.bool false)))) .nil)))) t117_14)
def x_iCourseRows := b117_0
theorem u117_0 : vcK P x_iCourseRows k e w = vcK P b117_0 k e w := rfl
def r_iCourseRows : List XO := [(.mv (.t 2)), (.mv (.t 3))]
theorem c_iCourseRows : convF Try.prog [169, 170, 207, 208, 210, 227, 232, 233, 255, 259, 268, 269, 270, 280, 281, 296, 299, 306, 307, 309] Try.f117 [([1], []), ([1, 10], []), ([2, 3], []), ([1, 4], []), ([1, 4, 20], []), ([2, 3], []), ([1, 4, 5], []), ([1, 5, 22, 23, 24], []), ([5, 24], [1, 22, 23]), ([1, 5, 22, 23, 24, 25], []), ([1, 5, 7, 22, 23, 24], []), ([1, 5, 22, 23, 24], []), ([1, 5, 22, 23, 24], []), ([2, 3], [])] = some (x_iCourseRows, r_iCourseRows) := by kernel_rfl
def us_iCourseRows := aI @u117_0 (aI @u117_1 (aI @u117_2 (aI @u117_3 (aI @u117_4 (aI @u117_5 (aI @u117_6 (aI @u117_7 (aI @u117_8 (aI @u117_9 (aI @u117_10 (aI @u117_11 (aI @u117_12 (aI @u117_13 @u117_14)))))))))))))
abbrev b241_1 : X := (.cond (.t 15) .skip (.exit 0))
def t241_1 := b241_1
theorem u241_1 : vcK P t241_1 k e w = vcK P b241_1 k e w := rfl
abbrev b241_2 : X := (.reg [1, 3, 4, 5] (.c (.q 28 [] (.mv (.t 7))) (.c (.q 4 [] (.mv (.t 28))) .nil)))
def t241_2 := b241_2
theorem u241_2 : vcK P t241_2 k e w = vcK P b241_2 k e w := rfl
abbrev b241_3 : X := (.seq (.reg [1, 3, 5, 7] (.c (.q 25 [] (.mv (.t 3))) (.c (.q 26 [] (.mv (.t 6))) (.c (.e (some 27) [] (.app 27 9 1 16 [(S [])] 27 (.t 25) (.t 26))) (.c (.q 3 [] (.mv (.t 27))) .nil))))) t241_2)
def t241_3 := b241_3
theorem u241_3 : vcK P t241_3 k e w = vcK P b241_3 k e w := rfl
abbrev b241_4 : X := (.reg [1, 3, 4, 5] (.c (.q 16 [] (.mv (.t 5))) (.c (.q 17 [] (.bin .sub (.t 16) (.c (.int .i64 1)))) (.c (.q 5 [] (.mv (.t 17))) .nil))))
def t241_4 := b241_4
theorem u241_4 : vcK P t241_4 k e w = vcK P b241_4 k e w := rfl
abbrev b241_5 : X := (.seq (.blk 1 (.seq (.reg [1, 3, 5, 6, 7] (.c (.q 19 [] (.fa 2 (.t 1))) (.c (.q 20 [] (.ld (.t 19))) (.c (.q 21 [] (.mv (.t 4))) (.c (.e (some 22) [] (.call false 234 [(.t 20), (.t 21)])) (.c (.q 18 [] (.mv (.t 22))) (.c (.q 23 [] (.ext 0 (.t 18))) (.c (.q 24 [] (.ext 1 (.t 18))) (.c (.q 6 [] (.mv (.t 23))) (.c (.q 7 [] (.mv (.t 24))) .nil)))))))))) t241_3)) t241_4)
def t241_5 := b241_5
theorem u241_5 : vcK P t241_5 k e w = vcK P b241_5 k e w := rfl
abbrev b241_6 : X := (.seq (.seq (.reg [1, 3, 4, 5, 15] (.c (.q 14 [] (.mv (.t 5))) (.c (.q 15 [] (.bin .gtr (.t 14) (.c (.int .i64 0)))) .nil))) t241_1) t241_5)
def t241_6 := b241_6
theorem u241_6 : vcK P t241_6 k e w = vcK P b241_6 k e w := rfl
abbrev b241_7 : X := (.blk 0 (.loop [3, 4, 5] [1] t241_6))
def t241_7 := b241_7
theorem u241_7 : vcK P t241_7 k e w = vcK P b241_7 k e w := rfl
abbrev b241_8 : X := (.seq (.reg [2] (.c (.q 29 [] (.mv (.t 3))) (.c (.q 2 [] (.mv (.t 29))) .nil))) .ret)
def t241_8 := b241_8
theorem u241_8 : vcK P t241_8 k e w = vcK P b241_8 k e w := rfl
abbrev b241_9 : X := (.seq (.seq (.reg [1, 3, 4, 5] (.c (.q 11 [] (.lda 3 (.t 1))) (.c (.e (some 12) [] (.call false 240 [(.t 11)])) (.c (.e (some 13) [] (.call false 239 [(.t 12)])) (.c (.q 5 [] (.mv (.t 13))) .nil))))) t241_7) t241_8)
def t241_9 := b241_9
theorem u241_9 : vcK P t241_9 k e w = vcK P b241_9 k e w := rfl
abbrev b241_10 : X := (.seq (.reg [1, 3, 4] (.c (.q 8 [] (.fa 1 (.t 1))) (.c (.q 9 [] (.ld (.t 8))) (.c (.e (some 10) [] (.call false 165 [(.t 9)])) (.c (.q 4 [] (.mv (.t 10))) .nil))))) t241_9)
def t241_10 := b241_10
theorem u241_10 : vcK P t241_10 k e w = vcK P b241_10 k e w := rfl
abbrev b241_11 : X := (.seq (.reg [1, 3] (.c (.q 3 [] (.mv (.c (.slice none 0 0)))) .nil)) t241_10)
def t241_11 := b241_11
theorem u241_11 : vcK P t241_11 k e w = vcK P b241_11 k e w := rfl
abbrev b241_0 : X := (.seq (.reg [1] (.c (.e (some 1) [] (.box 41 (.t 0))) (.c (.q 2 [] (.mv (.c (.slice none 0 0)))) .nil))) t241_11)
def x_sl4Course := b241_0
theorem u241_0 : vcK P x_sl4Course k e w = vcK P b241_0 k e w := rfl
def r_sl4Course : List XO := [(.mv (.t 2))]
theorem c_sl4Course : convF Try.prog [169, 170, 207, 208, 210, 227, 232, 233, 255, 259, 268, 269, 270, 280, 281, 296, 299, 306, 307, 309] Try.f241 [([1], []), ([1, 3], []), ([1, 3, 4], []), ([1, 3, 4, 5], []), ([3, 4, 5], [1]), ([1, 3, 4, 5, 15], []), ([1, 3, 5, 6, 7], []), ([1, 3, 5, 7], []), ([1, 3, 4, 5], []), ([1, 3, 4, 5], []), ([2], [])] = some (x_sl4Course, r_sl4Course) := by kernel_rfl
def us_sl4Course := aI @u241_0 (aI @u241_1 (aI @u241_2 (aI @u241_3 (aI @u241_4 (aI @u241_5 (aI @u241_6 (aI @u241_7 (aI @u241_8 (aI @u241_9 (aI @u241_10 @u241_11))))))))))
abbrev b118_1 : X := (.cond (.t 16) (.seq (.reg [2, 3] (.c (.q 2 [] (.mv (.c (.slice none 0 0)))) (.c (.q 3 [] (.mv (.c (.bool false)))) .nil))) .ret) .skip)
def t118_1 := b118_1
theorem u118_1 : vcK P t118_1 k e w = vcK P b118_1 k e w := rfl
abbrev b118_2 : X := (.seq (.reg [2, 3] (.c (.q 17 [] (.lda 3 (.t 1))) (.c (.e (some 18) [] (.call false 241 [(.t 17)])) (.c (.q 2 [] (.mv (.t 18))) (.c (.q 3 [] (.mv (.c (.bool true)))) .nil))))) .ret)
def t118_2 := b118_2
theorem u118_2 : vcK P t118_2 k e w = vcK P b118_2 k e w := rfl
abbrev b118_3 : X := (.seq (.seq (.drw [1, 16] (.c (.q 4 [] (.lda 3 (.t 1))) (.c (.e (some 5) [] (.call false 166 [(.t 4)])) (.c (.q 6 [] (.not (.t 5))) (.c (.q 7 [] (.mv (.t 6))) (.c (.q 8 [(7, false)] (.fa 2 (.t 1))) (.c (.q 9 [(7, false)] (.ld (.t 8))) (.c (.q 10 [(7, false)] (.lens (.t 9))) (.c (.q 11 [(7, false)] (.lda 3 (.t 1))) (.c (.e (some 12) [(7, false)] (.call false 240 [(.t 11)])) (.c (.e (some 13) [(7, false)] (.call false 239 [(.t 12)])) (.c (.q 14 [(7, false)] (.bin .mul (.t 10) (.t 13))) (.c (.q 15 [(7, false)] (.bin .gtr (.t 14) (.c (.int .i64 800)))) (.c (.q 16 [] (.pick (.t 7) (.c (.bool true)) (.t 15))) .nil)))))))))))))) t118_1) t118_2)
def t118_3 := b118_3
theorem u118_3 : vcK P t118_3 k e w = vcK P b118_3 k e w := rfl
abbrev b118_0 : X := (.seq (.reg [1] (.c (.e (some 1) [] (.box 41 (.t 0))) (.c (.q 2 [] (.mv (.c (.slice none 0 0)))) (.c (.q 3 [] (.mv (.c (.bool false)))) .nil)))) t118_3)
def x_sCourseRows := b118_0
theorem u118_0 : vcK P x_sCourseRows k e w = vcK P b118_0 k e w := rfl
def r_sCourseRows : List XO := [(.mv (.t 2)), (.mv (.t 3))]
theorem c_sCourseRows : convF Try.prog [169, 170, 207, 208, 210, 227, 232, 233, 255, 259, 268, 269, 270, 280, 281, 296, 299, 306, 307, 309] Try.f118 [([1], []), ([1, 16], []), ([2, 3], []), ([2, 3], [])] = some (x_sCourseRows, r_sCourseRows) := by kernel_rfl
def us_sCourseRows := aI @u118_0 (aI @u118_1 (aI @u118_2 @u118_3))
end

/-- The lead head of changes. -/
def hdL (st : Nat) (cs : List (List UInt8)) : List UInt8 := underL (roundsL st) cs
/-- The rows of a course of k leads. -/
def courseT (st : Nat) (cs : List (List UInt8)) (k : Nat) : List (List UInt8) := leadsL cs ((List.range k).map (powL (hdL st cs)))
/-- Are the rows of a course of k leads asked? -/
def CrsOk (nm : List UInt8) (st : Int) (cs : List (List UInt8)) (k : Nat) : Prop := IsMethod nm st cs ∧ k * cs.length ≤ 800
instance (nm : List UInt8) (st : Int) (cs : List (List UInt8)) (k : Nat) : Decidable (CrsOk nm st cs k) := by unfold CrsOk; infer_instance
def crsV (nm : List UInt8) (st : Int) (cs : List (List UInt8)) (k : Nat) : List (List UInt8) := if CrsOk nm st cs k then courseT st.toNat cs k else []
def liV (nm : List UInt8) (st : Int) (cs : List (List UInt8)) (k : Nat) : Value := .tuple ⟨[.int .i64 (if IsMethod nm st cs then (k : Int) else 0), .bool (decide (IsMethod nm st cs))]⟩
theorem hdL_row {n : Nat} (hn : 3 ≤ n ∧ n ≤ 8) (cs : List (List UInt8)) : IsRow (hdL n cs) ∧ (hdL n cs).length = n := under_row hn cs
theorem powL_head (cs : List (List UInt8)) {n : Nat} (hn : 3 ≤ n ∧ n ≤ 8) (i : Nat) : underL (powL (hdL n cs) i) cs = powL (hdL n cs) (i + 1) := by
  have hR := hdL_row hn cs
  rw [under_times cs (powL_row hR.1 i), powL_len, hR.2]
  rfl
section
variable (nm : List UInt8) (st : Int) (v : Value) (cs : List (List UInt8)) (k : Nat) (hnm : nm.length ≤ 1048576) (hs : ∀ c ∈ cs, c.length ≤ 1048576) (hl : cs.length ≤ 1000000000) (hk : IsMethod nm st cs → IsOrd (hdL st.toNat cs) k)
include hnm hs hl hk
theorem iLeadsIn_ok (w : World) (h : Sq fS 1 w v cs) : Fn 41 [mV nm st v] w (fun r _ => r = liV nm st cs k) := by
  (refine callsV_of mix Try.func41 c_iLeadsIn ?_; simp only [↓vsd, vsn, gW, qd, qv, ev, pick, argE, zipE, ne_eq, eq_self, forall_const, implies_true, if_true, if_false, reduceIte, reduceCtorEq, Nat.reduceEqDiff, Nat.reduceAdd, Nat.reduceLT, ↓us_iLeadsIn, r_iLeadsIn])
  refine m_al ?_
  rintro b1 w1 hb1 hblk1 hx1 hs1
  have h1 : Blk w1 b1 (fM nm st v) 41 := hblk1
  simp only [↓vsd, vsn, gW, qd, qv, ev, pick, argE, zipE, ne_eq, eq_self, forall_const, implies_true, if_true, if_false, reduceIte, reduceCtorEq, Nat.reduceEqDiff, Nat.reduceAdd, Nat.reduceLT, ↓us_iLeadsIn, r_iLeadsIn, h1.facts, fMg]
  refine m_call (iGoodMethod_ok nm st v cs hnm hs hl _ (h.ext hx1)) ?_
  rintro _ w2 hx2 rfl
  have hx12 := hx1.trans hx2
  have h2 := h1.ext hx2
  by_cases hm : IsMethod nm st cs
  · have hD := decide_eq_true hm
    have hR := hdL_row (n := st.toNat) (by have := hm.2.1; omega) cs
    have hO := hk hm
    simp only [↓vsd, vsn, gW, qd, qv, ev, pick, argE, zipE, ne_eq, eq_self, forall_const, implies_true, if_true, if_false, reduceIte, reduceCtorEq, Nat.reduceEqDiff, Nat.reduceAdd, Nat.reduceLT, ↓us_iLeadsIn, r_iLeadsIn, hD, h2.facts, fMg]
    refine m_call (ileadHead_ok nm st v cs hm _ (by first | exact h.ext hx12 | exact h.ext (dr hx12))) ?_
    rintro _ w3 hx3 rfl
    have hx3 : Ext w2 w3 := by first | exact hx3 | exact ud hx3 | exact ud (ud hx3)
    simp only [↓vsd, vsn, gW, qd, qv, ev, pick, argE, zipE, ne_eq, eq_self, forall_const, implies_true, if_true, if_false, reduceIte, reduceCtorEq, Nat.reduceEqDiff, Nat.reduceAdd, Nat.reduceLT, ↓us_iLeadsIn, r_iLeadsIn]
    refine m_call (ipowers_ok (hdL st.toNat cs) k hR.1 hO _) ?_
    rintro x w4 hx4 ho4
    have hpl : ((List.range k).map (powL (hdL st.toNat cs))).length = k := by simp
    simp only [↓vsd, vsn, gW, qd, qv, ev, pick, argE, zipE, ne_eq, eq_self, forall_const, implies_true, if_true, if_false, reduceIte, reduceCtorEq, Nat.reduceEqDiff, Nat.reduceAdd, Nat.reduceLT, ↓us_iLeadsIn, r_iLeadsIn, ho4.sq.facts, hpl]
    exact ⟨(hx12.trans hx3).trans hx4, by rw [liV, if_pos hm, hD]⟩
  · have hD := decide_eq_false hm
    simp only [↓vsd, vsn, gW, qd, qv, ev, pick, argE, zipE, ne_eq, eq_self, forall_const, implies_true, if_true, if_false, reduceIte, reduceCtorEq, Nat.reduceEqDiff, Nat.reduceAdd, Nat.reduceLT, ↓us_iLeadsIn, r_iLeadsIn, hD]
    exact ⟨hx12, by rw [liV, if_neg hm, hD]⟩
theorem sLeadsIn_ok (w : World) (h : Sq fS 1 w v cs) : Fn 119 [mV nm st v] w (fun r _ => r = liV nm st cs k) := by
  (refine callsV_of mix Try.func119 c_sLeadsIn ?_; simp only [↓vsd, vsn, gW, qd, qv, ev, pick, argE, zipE, ne_eq, eq_self, forall_const, implies_true, if_true, if_false, reduceIte, reduceCtorEq, Nat.reduceEqDiff, Nat.reduceAdd, Nat.reduceLT, ↓us_sLeadsIn, r_sLeadsIn])
  refine m_al ?_
  rintro b1 w1 hb1 hblk1 hx1 hs1
  have h1 : Blk w1 b1 (fM nm st v) 41 := hblk1
  simp only [↓vsd, vsn, gW, qd, qv, ev, pick, argE, zipE, ne_eq, eq_self, forall_const, implies_true, if_true, if_false, reduceIte, reduceCtorEq, Nat.reduceEqDiff, Nat.reduceAdd, Nat.reduceLT, ↓us_sLeadsIn, r_sLeadsIn, h1.facts, fMg]
  refine m_call (sl4Good_ok nm st v cs hnm hs hl _ (h.ext hx1)) ?_
  rintro _ w2 hx2 rfl
  have hx12 := hx1.trans hx2
  have h2 := h1.ext hx2
  by_cases hm : IsMethod nm st cs
  · have hD := decide_eq_true hm
    have hR := hdL_row (n := st.toNat) (by have := hm.2.1; omega) cs
    have hO := hk hm
    simp only [↓vsd, vsn, gW, qd, qv, ev, pick, argE, zipE, ne_eq, eq_self, forall_const, implies_true, if_true, if_false, reduceIte, reduceCtorEq, Nat.reduceEqDiff, Nat.reduceAdd, Nat.reduceLT, ↓us_sLeadsIn, r_sLeadsIn, hD, h2.facts, fMg]
    refine m_call (sl4Head_ok nm st v cs hm _ (by first | exact h.ext hx12 | exact h.ext (dr hx12))) ?_
    rintro _ w3 hx3 rfl
    have hx3 : Ext w2 w3 := by first | exact hx3 | exact ud hx3 | exact ud (ud hx3)
    simp only [↓vsd, vsn, gW, qd, qv, ev, pick, argE, zipE, ne_eq, eq_self, forall_const, implies_true, if_true, if_false, reduceIte, reduceCtorEq, Nat.reduceEqDiff, Nat.reduceAdd, Nat.reduceLT, ↓us_sLeadsIn, r_sLeadsIn]
    refine m_call (sl1Order_ok (hdL st.toNat cs) k hR.1 hO _) ?_
    rintro _ w4 hx4 rfl
    simp only [↓vsd, vsn, gW, qd, qv, ev, pick, argE, zipE, ne_eq, eq_self, forall_const, implies_true, if_true, if_false, reduceIte, reduceCtorEq, Nat.reduceEqDiff, Nat.reduceAdd, Nat.reduceLT, ↓us_sLeadsIn, r_sLeadsIn]
    exact ⟨(hx12.trans hx3).trans hx4, by rw [liV, if_pos hm, hD]⟩
  · have hD := decide_eq_false hm
    simp only [↓vsd, vsn, gW, qd, qv, ev, pick, argE, zipE, ne_eq, eq_self, forall_const, implies_true, if_true, if_false, reduceIte, reduceCtorEq, Nat.reduceEqDiff, Nat.reduceAdd, Nat.reduceLT, ↓us_sLeadsIn, r_sLeadsIn, hD]
    exact ⟨hx12, by rw [liV, if_neg hm, hD]⟩
theorem iCourseRows_ok (w : World) (h : Sq fS 1 w v cs) : Fn 117 [mV nm st v] w (fun r w' => ∃ x, r = .tuple ⟨[x, .bool (decide (CrsOk nm st cs k))]⟩ ∧ Own fS 1 9 w.heap.size w' x (crsV nm st cs k)) := by
  (refine callsV_of mix Try.func117 c_iCourseRows ?_; simp only [↓vsd, vsn, gW, qd, qv, ev, pick, argE, zipE, ne_eq, eq_self, forall_const, implies_true, if_true, if_false, reduceIte, reduceCtorEq, Nat.reduceEqDiff, Nat.reduceAdd, Nat.reduceLT, ↓us_iCourseRows, r_iCourseRows])
  refine m_al ?_
  rintro b1 w1 hb1 hblk1 hx1 hs1
  have h1 : Blk w1 b1 (fM nm st v) 41 := hblk1
  simp only [↓vsd, vsn, gW, qd, qv, ev, pick, argE, zipE, ne_eq, eq_self, forall_const, implies_true, if_true, if_false, reduceIte, reduceCtorEq, Nat.reduceEqDiff, Nat.reduceAdd, Nat.reduceLT, ↓us_iCourseRows, r_iCourseRows, h1.facts, fMg]
  refine m_call (iGoodMethod_ok nm st v cs hnm hs hl _ (h.ext hx1)) ?_
  rintro _ w2 hx2 rfl
  have hx12 := hx1.trans hx2
  have h2 := h1.ext hx2
  by_cases hm : IsMethod nm st cs
  · have hD := decide_eq_true hm
    have hR := hdL_row (n := st.toNat) (by have := hm.2.1; omega) cs
    have hO := hk hm
    have hcl := hm.2.2.1
    obtain ⟨n, rfl⟩ : ∃ n : Nat, st = n := ⟨st.toNat, by have := hm.2.1; omega⟩
    rw [Int.toNat_natCast] at hR hO
    simp only [↓vsd, vsn, gW, qd, qv, ev, pick, argE, zipE, ne_eq, eq_self, forall_const, implies_true, if_true, if_false, reduceIte, reduceCtorEq, Nat.reduceEqDiff, Nat.reduceAdd, Nat.reduceLT, ↓us_iCourseRows, r_iCourseRows, hD, h2.facts, fMg]
    refine m_call (ileadHead_ok nm n v cs hm _ (by first | exact h.ext hx12 | exact h.ext (dr hx12))) ?_
    rintro _ w3 hx3 rfl
    have hx3 : Ext w2 w3 := by first | exact hx3 | exact ud hx3 | exact ud (ud hx3)
    rw [Int.toNat_natCast]
    simp only [↓vsd, vsn, gW, qd, qv, ev, pick, argE, zipE, ne_eq, eq_self, forall_const, implies_true, if_true, if_false, reduceIte, reduceCtorEq, Nat.reduceEqDiff, Nat.reduceAdd, Nat.reduceLT, ↓us_iCourseRows, r_iCourseRows]
    refine m_call (ipowers_ok (hdL n cs) k hR.1 hO _) ?_
    rintro x w4 hx4 ho4
    have hx4 : Ext w3 w4 := by first | exact hx4 | exact ud hx4 | exact ud (ud hx4)
    have hpl : ((List.range k).map (powL (hdL n cs))).length = k := by simp
    have hx24 := hx3.trans hx4
    have hx14 := hx12.trans hx24
    have h4 := h2.ext hx24
    have hq4 := h.ext hx14
    have hk840 := hO.2.1
    have hmul : (k : Int) * cs.length = ((k * cs.length : Nat) : Int) := (Int.natCast_mul _ _).symm
    have hm4 : k * cs.length ≤ 33600 := Nat.mul_le_mul hk840 hcl.2
    simp only [↓vsd, vsn, gW, qd, qv, ev, pick, argE, zipE, ne_eq, eq_self, forall_const, implies_true, if_true, if_false, reduceIte, reduceCtorEq, Nat.reduceEqDiff, Nat.reduceAdd, Nat.reduceLT, ↓us_iCourseRows, r_iCourseRows, ho4.sq.facts, hpl, h4.facts, fMg, hq4.facts, hmul]
    refine ⟨inR_i64 (by omega), fun hgt => ?_, fun hle => ?_⟩
    · have hno : ¬ CrsOk nm n cs k := fun hh => by have := hh.2; omega
      exact ⟨hx14, _, by rw [decide_eq_false hno], by rw [crsV, if_neg hno]; exact Own.nil fS_len⟩
    have hok : CrsOk nm n cs k := ⟨hm, by omega⟩
    have hrs : ∀ r ∈ (List.range k).map (powL (hdL n cs)), IsRow r := fun r hr => by
      obtain ⟨i, _, rfl⟩ := List.mem_map.1 hr
      exact powL_row hR.1 i
    have hct : courseT n cs k = leadsL cs ((List.range k).map (powL (hdL n cs))) := rfl
    generalize hHS : (List.range k).map (powL (hdL n cs)) = HS at *
    refine m_bsl (by simp) ?_
    rintro b5 w5 hb5 hblk5 hx5 hs5
    have hx5 : Ext w4 w5 := by first | exact hx5 | exact ud hx5 | exact ud (ud hx5)
    have hx15 := hx14.trans hx5
    have hq5 := ho4.sq.ext hx5
    simp only [↓vsd, vsn, gW, qd, qv, ev, pick, argE, zipE, ne_eq, eq_self, forall_const, implies_true, if_true, if_false, reduceIte, reduceCtorEq, Nat.reduceEqDiff, Nat.reduceAdd, Nat.reduceLT, ↓us_iCourseRows, r_iCourseRows, hq5.facts, hpl]
    refine m_upto HS.length (fun i vs w' => ∃ y, vs = [y, .int .i64 i] ∧ Own fS 1 9 w4.heap.size w' y (leadsL cs (HS.take i)) ∧ Ext w4 w') ⟨_, rfl, (Own.empty fS_len hblk5 (by omega)).to rfl, hx5⟩ ?_
    rintro i vs w6 hi ⟨y, rfl, ho6, hx6⟩
    have hx16 := hx14.trans hx6
    have h6 := h4.ext hx6
    have hq6 := ho4.sq.ext hx6
    by_cases hlt : i < HS.length
    · have hltI : (i : Int) < HS.length := by omega
      have hltK : (i : Int) < k := by omega
      have hltJ : ¬ (HS.length : Int) ≤ i := by omega
      simp only [↓vsd, vsn, gW, qd, qv, ev, pick, argE, zipE, ne_eq, eq_self, forall_const, implies_true, if_true, if_false, reduceIte, reduceCtorEq, Nat.reduceEqDiff, Nat.reduceAdd, Nat.reduceLT, ↓us_iCourseRows, r_iCourseRows, hltI, hltJ, hltK, hq6.facts, hq6.at1 [] hlt, h6.facts, fMg]
      refine ⟨by omega, m_call (ileadRows_ok nm n v cs _ hm (hrs _ (getD_mem [] hlt)) _ (by first | exact h.ext hx16 | exact h.ext (dr hx16))) ?_⟩
      rintro z w7 hx7 ho7
      have hx7 : Ext w6 w7 := by first | exact hx7 | exact ud hx7 | exact ud (ud hx7)
      simp only [↓vsd, vsn, gW, qd, qv, ev, pick, argE, zipE, ne_eq, eq_self, forall_const, implies_true, if_true, if_false, reduceIte, reduceCtorEq, Nat.reduceEqDiff, Nat.reduceAdd, Nat.reduceLT, ↓us_iCourseRows, r_iCourseRows]
      have hll := leadsL_len cs (HS.take i)
      rw [List.length_take, Nat.min_eq_left (by omega)] at hll
      have hb1 : i * cs.length ≤ 33600 := Nat.mul_le_mul (show i ≤ 840 by omega) hcl.2
      refine m_app (ho6.ext hx7) ho7.sq fS_one (by decide) (by rw [hll, rowsU_len]; omega) (by decide) (hx6.trans hx7).size ?_
      rintro z' w8 ho8 hg8
      have hx8 := (ho6.ext hx7).grown (hx6.trans hx7) (Nat.le_refl _) hg8
      simp only [↓vsd, vsn, gW, qd, qv, ev, pick, argE, zipE, ne_eq, eq_self, forall_const, implies_true, if_true, if_false, reduceIte, reduceCtorEq, Nat.reduceEqDiff, Nat.reduceAdd, Nat.reduceLT, ↓us_iCourseRows, r_iCourseRows]
      exact ⟨inR_i64 (by omega), UpTo.next hlt ⟨z', rfl, ho8.to (leadsL_succ cs HS i hlt).symm, hx8⟩⟩
    · obtain rfl : i = HS.length := by omega
      have hltI : ¬ (HS.length : Int) < k := by omega
      simp only [↓vsd, vsn, gW, qd, qv, ev, pick, argE, zipE, ne_eq, eq_self, forall_const, implies_true, if_true, if_false, reduceIte, reduceCtorEq, Nat.reduceEqDiff, Nat.reduceAdd, Nat.reduceLT, ↓us_iCourseRows, r_iCourseRows, hltI]
      rw [List.take_length] at ho6
      exact ⟨hx16, y, by rw [decide_eq_true hok], by rw [crsV, if_pos hok, Int.toNat_natCast, hct]; exact ho6.mono hx14.size⟩
  · have hno : ¬ CrsOk nm st cs k := fun hh => hm hh.1
    have hD := decide_eq_false hm
    simp only [↓vsd, vsn, gW, qd, qv, ev, pick, argE, zipE, ne_eq, eq_self, forall_const, implies_true, if_true, if_false, reduceIte, reduceCtorEq, Nat.reduceEqDiff, Nat.reduceAdd, Nat.reduceLT, ↓us_iCourseRows, r_iCourseRows, hD]
    exact ⟨hx12, _, by rw [decide_eq_false hno], by rw [crsV, if_neg hno]; exact Own.nil fS_len⟩
end
theorem sl4Course_ok (nm : List UInt8) (n : Nat) (v : Value) (cs : List (List UInt8)) (k : Nat) (hm : IsMethod nm n cs) (hO : IsOrd (hdL n cs) k) (w : World) (h : Sq fS 1 w v cs) : Fn 241 [mV nm n v] w (fun r w' => Own fS 1 9 w.heap.size w' r (courseT n cs k)) := by
  have hR := hdL_row (n := n) (by have := hm.2.1; omega) cs
  have hcl := hm.2.2.1
  have h8 := hm.2.1
  (refine callsV_of mix Try.func241 c_sl4Course ?_; simp only [↓vsd, vsn, gW, qd, qv, ev, pick, argE, zipE, ne_eq, eq_self, forall_const, implies_true, if_true, if_false, reduceIte, reduceCtorEq, Nat.reduceEqDiff, Nat.reduceAdd, Nat.reduceLT, ↓us_sl4Course, r_sl4Course])
  refine m_al ?_
  rintro b1 w1 hb1 hblk1 hx1 hs1
  have h1 : Blk w1 b1 (fM nm n v) 41 := hblk1
  simp only [↓vsd, vsn, gW, qd, qv, ev, pick, argE, zipE, ne_eq, eq_self, forall_const, implies_true, if_true, if_false, reduceIte, reduceCtorEq, Nat.reduceEqDiff, Nat.reduceAdd, Nat.reduceLT, ↓us_sl4Course, r_sl4Course, h1.facts, fMg]
  refine m_call (sl1Rounds_ok n (by omega) _) ?_
  rintro _ w2 hx2 rfl
  have hx12 := hx1.trans hx2
  have h2 := h1.ext hx2
  simp only [↓vsd, vsn, gW, qd, qv, ev, pick, argE, zipE, ne_eq, eq_self, forall_const, implies_true, if_true, if_false, reduceIte, reduceCtorEq, Nat.reduceEqDiff, Nat.reduceAdd, Nat.reduceLT, ↓us_sl4Course, r_sl4Course, h2.facts, fMg]
  refine m_call (sl4Head_ok nm n v cs hm _ (by first | exact h.ext hx12 | exact h.ext (dr hx12))) ?_
  rintro _ w3 hx3 rfl
  have hx3 : Ext w2 w3 := by first | exact hx3 | exact ud hx3 | exact ud (ud hx3)
  rw [Int.toNat_natCast]
  simp only [↓vsd, vsn, gW, qd, qv, ev, pick, argE, zipE, ne_eq, eq_self, forall_const, implies_true, if_true, if_false, reduceIte, reduceCtorEq, Nat.reduceEqDiff, Nat.reduceAdd, Nat.reduceLT, ↓us_sl4Course, r_sl4Course]
  refine m_call (sl1Order_ok (hdL n cs) k hR.1 hO _) ?_
  rintro _ w4 hx4 rfl
  have hx4 : Ext w3 w4 := by first | exact hx4 | exact ud hx4 | exact ud (ud hx4)
  have hx14 := (hx12.trans hx3).trans hx4
  have hk840 := hO.2.1
  simp only [↓vsd, vsn, gW, qd, qv, ev, pick, argE, zipE, ne_eq, eq_self, forall_const, implies_true, if_true, if_false, reduceIte, reduceCtorEq, Nat.reduceEqDiff, Nat.reduceAdd, Nat.reduceLT, ↓us_sl4Course, r_sl4Course]
  have hpl : ∀ i, ((List.range i).map (powL (hdL n cs))).length = i := fun i => by simp
  have hstep : ∀ i, leadsL cs ((List.range (i + 1)).map (powL (hdL n cs))) = leadsL cs ((List.range i).map (powL (hdL n cs))) ++ rowsU (powL (hdL n cs) i) cs cs.length := fun i => by
    rw [List.range_succ, List.map_append, leadsL, List.flatMap_append]
    simp [leadsL]
  have hx24 := (hx2.trans hx3).trans hx4
  refine m_loop (fun j vs w' => ∃ y, j ≤ k ∧ vs = [y, S (powL (hdL n cs) (k - j)), .int .i64 j] ∧ Own fS 1 9 w1.heap.size w' y (leadsL cs ((List.range (k - j)).map (powL (hdL n cs)))) ∧ Ext w1 w') k ⟨_, Nat.le_refl _, by rw [Nat.sub_self]; show _ = [_, S (roundsL (hdL n cs).length), _]; rw [hR.2], by rw [Nat.sub_self]; exact Own.nil fS_len, hx24⟩ ?_
  rintro j vs w5 ⟨y, hj, rfl, ho5, hx5⟩
  have h5 := h1.ext hx5
  have hx15 := hx1.trans hx5
  by_cases hj0 : 0 < j
  · have hjI : 0 < (j : Int) := by omega
    have hjJ : ¬ (j : Int) ≤ 0 := by omega
    simp only [↓vsd, vsn, gW, qd, qv, ev, pick, argE, zipE, ne_eq, eq_self, forall_const, implies_true, if_true, if_false, reduceIte, reduceCtorEq, Nat.reduceEqDiff, Nat.reduceAdd, Nat.reduceLT, ↓us_sl4Course, r_sl4Course, hjI, hjJ, h5.facts, fMg]
    refine m_call (sl4Lead_ok (powL (hdL n cs) (k - j)) v cs n (powL_row hR.1 _) hm.2.2.2 hcl.2 _ (by first | exact h.ext hx15 | exact h.ext (dr hx15))) ?_
    rintro _ w6 hx6 ⟨z, rfl, ho6⟩
    have hx6 : Ext w5 w6 := by first | exact hx6 | exact ud hx6 | exact ud (ud hx6)
    rw [powL_head cs (by omega)]
    simp only [↓vsd, vsn, gW, qd, qv, ev, pick, argE, zipE, ne_eq, eq_self, forall_const, implies_true, if_true, if_false, reduceIte, reduceCtorEq, Nat.reduceEqDiff, Nat.reduceAdd, Nat.reduceLT, ↓us_sl4Course, r_sl4Course]
    have hll := leadsL_len cs ((List.range (k - j)).map (powL (hdL n cs)))
    rw [hpl] at hll
    have hb1 : (k - j) * cs.length ≤ 33600 := Nat.mul_le_mul (show k - j ≤ 840 by omega) hcl.2
    refine m_app (ho5.ext hx6) ho6.sq fS_one (by decide) (by rw [hll, rowsU_len]; omega) (by decide) (hx5.trans hx6).size ?_
    rintro z' w7 ho7 hg7
    have hx7 := (ho5.ext hx6).grown (hx5.trans hx6) (Nat.le_refl _) hg7
    simp only [↓vsd, vsn, gW, qd, qv, ev, pick, argE, zipE, ne_eq, eq_self, forall_const, implies_true, if_true, if_false, reduceIte, reduceCtorEq, Nat.reduceEqDiff, Nat.reduceAdd, Nat.reduceLT, ↓us_sl4Course, r_sl4Course]
    have e1 : k - (j - 1) = k - j + 1 := by omega
    exact ⟨inR_i64 (by omega), j - 1, by omega, z', by omega, ⟨rfl, by rw [e1], by rw [show ((j : Int) - 1) = ((j - 1 : Nat) : Int) by omega]⟩, ho7.to (by rw [e1, hstep]), hx7⟩
  · have hjI : ¬ 0 < (j : Int) := by omega
    simp only [↓vsd, vsn, gW, qd, qv, ev, pick, argE, zipE, ne_eq, eq_self, forall_const, implies_true, if_true, if_false, reduceIte, reduceCtorEq, Nat.reduceEqDiff, Nat.reduceAdd, Nat.reduceLT, ↓us_sl4Course, r_sl4Course, hjI]
    obtain rfl : j = 0 := by omega
    rw [Nat.sub_zero] at ho5
    exact ⟨hx15, ho5.mono hx1.size⟩
section
variable (nm : List UInt8) (st : Int) (v : Value) (cs : List (List UInt8)) (k : Nat) (hnm : nm.length ≤ 1048576) (hs : ∀ c ∈ cs, c.length ≤ 1048576) (hl : cs.length ≤ 1000000000) (hk : IsMethod nm st cs → IsOrd (hdL st.toNat cs) k)
include hnm hs hl hk
theorem sCourseRows_ok (w : World) (h : Sq fS 1 w v cs) : Fn 118 [mV nm st v] w (fun r w' => ∃ x, r = .tuple ⟨[x, .bool (decide (CrsOk nm st cs k))]⟩ ∧ Own fS 1 9 w.heap.size w' x (crsV nm st cs k)) := by
  (refine callsV_of mix Try.func118 c_sCourseRows ?_; simp only [↓vsd, vsn, gW, qd, qv, ev, pick, argE, zipE, ne_eq, eq_self, forall_const, implies_true, if_true, if_false, reduceIte, reduceCtorEq, Nat.reduceEqDiff, Nat.reduceAdd, Nat.reduceLT, ↓us_sCourseRows, r_sCourseRows])
  refine m_al ?_
  rintro b1 w1 hb1 hblk1 hx1 hs1
  have h1 : Blk w1 b1 (fM nm st v) 41 := hblk1
  have hq1 := h.ext hx1
  simp only [↓vsd, vsn, gW, qd, qv, ev, pick, argE, zipE, ne_eq, eq_self, forall_const, implies_true, if_true, if_false, reduceIte, reduceCtorEq, Nat.reduceEqDiff, Nat.reduceAdd, Nat.reduceLT, ↓us_sCourseRows, r_sCourseRows, h1.facts, fMg, hq1.facts]
  refine m_call (sl4Good_ok nm st v cs hnm hs hl _ (by first | exact h.ext hx1 | exact h.ext (dr hx1))) ?_
  rintro _ w2 hx2 rfl
  have hx2 : Ext w1 w2 := by first | exact hx2 | exact ud hx2 | exact ud (ud hx2)
  have hx12 := hx1.trans hx2
  have h2 := h1.ext hx2
  by_cases hm : IsMethod nm st cs
  · have hD := decide_eq_true hm
    have hR := hdL_row (n := st.toNat) (by have := hm.2.1; omega) cs
    have hO := hk hm
    have hcl := hm.2.2.1
    obtain ⟨n, rfl⟩ : ∃ n : Nat, st = n := ⟨st.toNat, by have := hm.2.1; omega⟩
    rw [Int.toNat_natCast] at hR hO
    have hq2 := h.ext hx12
    simp only [↓vsd, vsn, gW, qd, qv, ev, pick, argE, zipE, ne_eq, eq_self, forall_const, implies_true, if_true, if_false, reduceIte, reduceCtorEq, Nat.reduceEqDiff, Nat.reduceAdd, Nat.reduceLT, ↓us_sCourseRows, r_sCourseRows, hD, h1.facts, h2.facts, fMg, hq2.facts, hq1.facts]
    refine m_call (sl4Head_ok nm n v cs hm _ (by first | exact h.ext hx12 | exact h.ext (dr hx12))) ?_
    rintro _ w3 hx3 rfl
    have hx3 : Ext w2 w3 := by first | exact hx3 | exact ud hx3 | exact ud (ud hx3)
    rw [Int.toNat_natCast]
    simp only [↓vsd, vsn, gW, qd, qv, ev, pick, argE, zipE, ne_eq, eq_self, forall_const, implies_true, if_true, if_false, reduceIte, reduceCtorEq, Nat.reduceEqDiff, Nat.reduceAdd, Nat.reduceLT, ↓us_sCourseRows, r_sCourseRows]
    refine m_call (sl1Order_ok (hdL n cs) k hR.1 hO _) ?_
    rintro _ w4 hx4 rfl
    have hx4 : Ext w3 w4 := by first | exact hx4 | exact ud hx4 | exact ud (ud hx4)
    have hx24 := hx3.trans hx4
    have hx14 := hx12.trans hx24
    have h4 := h2.ext hx24
    have hq4 := h.ext hx14
    have hk840 := hO.2.1
    have hmul : (cs.length : Int) * k = ((k * cs.length : Nat) : Int) := by rw [Int.mul_comm]; exact (Int.natCast_mul _ _).symm
    have hm4 : k * cs.length ≤ 33600 := Nat.mul_le_mul hk840 hcl.2
    simp only [↓vsd, vsn, gW, qd, qv, ev, pick, argE, zipE, ne_eq, eq_self, forall_const, implies_true, if_true, if_false, reduceIte, reduceCtorEq, Nat.reduceEqDiff, Nat.reduceAdd, Nat.reduceLT, ↓us_sCourseRows, r_sCourseRows, h1.facts, h4.facts, fMg, hq4.facts, hq1.facts, hmul]
    refine ⟨inR_i64 (by omega), fun hgt => ?_, fun hle => ?_⟩
    · have hno : ¬ CrsOk nm n cs k := fun hh => by have := hh.2; omega
      exact ⟨hx14, _, by rw [decide_eq_false hno], by rw [crsV, if_neg hno]; exact Own.nil fS_len⟩
    have hok : CrsOk nm n cs k := ⟨hm, by omega⟩
    refine m_call (sl4Course_ok nm n v cs k hm hO _ (by first | exact h.ext hx14 | exact h.ext (dr hx14))) ?_
    rintro x w5 hx5 ho5
    have hx5 : Ext w4 w5 := by first | exact hx5 | exact ud hx5 | exact ud (ud hx5)
    simp only [↓vsd, vsn, gW, qd, qv, ev, pick, argE, zipE, ne_eq, eq_self, forall_const, implies_true, if_true, if_false, reduceIte, reduceCtorEq, Nat.reduceEqDiff, Nat.reduceAdd, Nat.reduceLT, ↓us_sCourseRows, r_sCourseRows]
    exact ⟨hx14.trans hx5, x, by rw [decide_eq_true hok], by rw [crsV, if_pos hok, Int.toNat_natCast]; exact ho5.mono hx14.size⟩
  · have hno : ¬ CrsOk nm st cs k := fun hh => hm hh.1
    have hD := decide_eq_false hm
    simp only [↓vsd, vsn, gW, qd, qv, ev, pick, argE, zipE, ne_eq, eq_self, forall_const, implies_true, if_true, if_false, reduceIte, reduceCtorEq, Nat.reduceEqDiff, Nat.reduceAdd, Nat.reduceLT, ↓us_sCourseRows, r_sCourseRows, hD]
    exact ⟨hx12, _, by rw [decide_eq_false hno], by rw [crsV, if_neg hno]; exact Own.nil fS_len⟩
end
end Go.Proofs.Ytpnopboffalfnaa
