/-
  Truth of splices by lead heads: false lead heads between two methods, of both sides.
  Conditions: none.
-/
import Derived.Test.YthopbkemkfjebaaGreatKA67
import Derived.Test.YthopbkemkfjebaaGreatKA84
set_option linter.unusedSimpArgs false
set_option linter.unusedVariables false
set_option linter.defProp false
namespace Go.Proofs.YthopbkemkfjebaaGreat
open Go Go.RowKit
section
variable (P : Program) (k : KT) (e : Env) (w : World)
abbrev b92_1 : X := (.cond (.t 25) (.seq (.reg [6] (.c (.q 6 [] (.mv (.c (.bool true)))) .nil)) .ret) .skip)
def t92_1 := b92_1
theorem u92_1 : vcK P t92_1 k e w = vcK P b92_1 k e w := rfl
abbrev b92_2 : X := (.seq (.reg [7, 17, 18, 19, 25] (.c (.q 23 [] (.mv (.t 7))) (.c (.q 24 [] (.mv (.t 9))) (.c (.e (some 25) [] (.call false 107 [(.t 23), (.t 24)])) .nil)))) t92_1)
def t92_2 := b92_2
theorem u92_2 : vcK P t92_2 k e w = vcK P b92_2 k e w := rfl
abbrev b92_3 : X := (.reg [7, 17, 18, 19] (.c (.q 26 [] (.bin .add (.t 19) (.c (.int .i64 1)))) (.c (.q 19 [] (.mv (.t 26))) .nil)))
def t92_3 := b92_3
theorem u92_3 : vcK P t92_3 k e w = vcK P b92_3 k e w := rfl
abbrev b92_4 : X := (.seq (.blk 1 (.seq (.reg [7, 9, 17, 18, 19] (.c (.q 21 [] (.ia 1 (.t 17) (.t 19))) (.c (.q 22 [] (.ld (.t 21))) (.c (.q 9 [] (.mv (.t 22))) .nil)))) t92_2)) t92_3)
def t92_4 := b92_4
theorem u92_4 : vcK P t92_4 k e w = vcK P b92_4 k e w := rfl
abbrev b92_5 : X := (.seq (.cond (.t 20) .skip (.exit 0)) t92_4)
def t92_5 := b92_5
theorem u92_5 : vcK P t92_5 k e w = vcK P b92_5 k e w := rfl
abbrev b92_6 : X := (.seq (.reg [7, 17, 18, 19, 20] (.c (.q 20 [] (.bin .lss (.t 19) (.t 18))) .nil)) t92_5)
def t92_6 := b92_6
theorem u92_6 : vcK P t92_6 k e w = vcK P b92_6 k e w := rfl
abbrev b92_7 : X := (.blk 0 (.loop [19] [7, 17, 18] t92_6))
def t92_7 := b92_7
theorem u92_7 : vcK P t92_7 k e w = vcK P b92_7 k e w := rfl
abbrev b92_8 : X := (.seq (.reg [6] (.c (.q 6 [] (.mv (.c (.bool false)))) .nil)) .ret)
def t92_8 := b92_8
theorem u92_8 : vcK P t92_8 k e w = vcK P b92_8 k e w := rfl
abbrev b92_9 : X := (.seq (.seq (.drw [7, 17, 18, 19] (.c (.q 13 [] (.lda 3 (.t 3))) (.c (.q 14 [] (.fa 1 (.t 3))) (.c (.q 15 [] (.ld (.t 14))) (.c (.q 19 [] (.mv (.c (.int .i64 0)))) (.c (.e (some 16) [] (.call false 70 [(.t 15)])) (.c (.e (some 17) [] (.call false 69 [(.t 13), (.t 16)])) (.c (.q 18 [] (.lens (.t 17))) .nil)))))))) t92_7) t92_8)
def t92_9 := b92_9
theorem u92_9 : vcK P t92_9 k e w = vcK P b92_9 k e w := rfl
abbrev b92_10 : X := (.seq (.reg [3, 7] (.c (.q 10 [] (.lda 3 (.t 4))) (.c (.q 11 [] (.mv (.t 2))) (.c (.e (some 12) [] (.call false 69 [(.t 10), (.t 11)])) (.c (.q 7 [] (.mv (.t 12))) .nil))))) t92_9)
def t92_10 := b92_10
theorem u92_10 : vcK P t92_10 k e w = vcK P b92_10 k e w := rfl
abbrev b92_0 : X := (.seq (.reg [2, 3, 4] (.c (.e (some 3) [] (.box 25 (.t 0))) (.c (.e (some 4) [] (.box 25 (.t 1))) (.c (.q 6 [] (.mv (.c (.bool false)))) .nil)))) t92_10)
def x_sl14False := b92_0
theorem u92_0 : vcK P x_sl14False k e w = vcK P b92_0 k e w := rfl
def r_sl14False : List XO := [(.mv (.t 6))]
theorem c_sl14False : convF Tryz.prog [56, 58, 59, 60, 61, 62, 72, 73, 77, 97, 98, 109, 110, 111, 112, 115, 128, 136] Tryz.f92 [([2, 3, 4], []), ([3, 7], []), ([7, 17, 18, 19], []), ([19], [7, 17, 18]), ([7, 17, 18, 19, 20], []), ([7, 9, 17, 18, 19], []), ([7, 17, 18, 19, 25], []), ([6], []), ([7, 17, 18, 19], []), ([6], [])] = some (x_sl14False, r_sl14False) := by kernel_rfl
def us_sl14False :=  (aI (aI (aI @u92_0 @u92_1) (aI @u92_2 (aI @u92_3 @u92_4))) (aI (aI @u92_5 (aI @u92_6 @u92_7)) (aI @u92_8 (aI @u92_9 @u92_10))))
abbrev b41_1 : X := (.cond (.t 29) (.seq (.reg [6, 7] (.c (.q 6 [] (.mv (.c (.bool false)))) (.c (.q 7 [] (.mv (.c (.bool false)))) .nil))) .ret) .skip)
def t41_1 := b41_1
theorem u41_1 : vcK P t41_1 k e w = vcK P b41_1 k e w := rfl
abbrev b41_2 : X := (.seq (.reg [6, 7] (.c (.q 30 [] (.lda 3 (.t 3))) (.c (.q 31 [] (.lda 3 (.t 4))) (.c (.e (some 32) [] (.call false 85 [(.t 30), (.t 31)])) (.c (.q 33 [] (.mv (.t 2))) (.c (.q 34 [] (.mlk false .string (.bool false) (.t 32) (.t 33))) (.c (.q 6 [] (.mv (.t 34))) (.c (.q 7 [] (.mv (.c (.bool true)))) .nil)))))))) .ret)
def t41_2 := b41_2
theorem u41_2 : vcK P t41_2 k e w = vcK P b41_2 k e w := rfl
abbrev b41_3 : X := (.seq (.seq (.reg [2, 3, 4, 29] (.c (.q 8 [] (.lda 3 (.t 3))) (.c (.e (some 9) [] (.call false 63 [(.t 8)])) (.c (.q 10 [] (.not (.t 9))) (.c (.q 11 [] (.mv (.t 10))) (.c (.q 12 [(11, false)] (.lda 3 (.t 4))) (.c (.e (some 13) [(11, false)] (.call false 63 [(.t 12)])) (.c (.q 14 [(11, false)] (.not (.t 13))) (.c (.q 15 [] (.pick (.t 11) (.c (.bool true)) (.t 14))) (.c (.q 16 [] (.mv (.t 15))) (.c (.q 17 [(16, false)] (.fa 1 (.t 3))) (.c (.q 18 [(16, false)] (.ld (.t 17))) (.c (.q 19 [(16, false)] (.fa 1 (.t 4))) (.c (.q 20 [(16, false)] (.ld (.t 19))) (.c (.q 21 [(16, false)] (.bin .neq (.t 18) (.t 20))) (.c (.q 22 [] (.pick (.t 16) (.c (.bool true)) (.t 21))) (.c (.q 23 [] (.mv (.t 22))) (.c (.q 24 [(23, false)] (.fa 1 (.t 3))) (.c (.q 25 [(23, false)] (.ld (.t 24))) (.c (.q 26 [(23, false)] (.mv (.t 2))) (.c (.e (some 27) [(23, false)] (.call false 99 [(.t 25), (.t 26)])) (.c (.q 28 [(23, false)] (.not (.t 27))) (.c (.q 29 [] (.pick (.t 23) (.c (.bool true)) (.t 28))) .nil))))))))))))))))))))))) t41_1) t41_2)
def t41_3 := b41_3
theorem u41_3 : vcK P t41_3 k e w = vcK P b41_3 k e w := rfl
abbrev b41_0 : X := (.seq (.reg [2, 3, 4] (.c (.e (some 3) [] (.box 25 (.t 0))) (.c (.e (some 4) [] (.box 25 (.t 1))) (.c (.q 6 [] (.mv (.c (.bool false)))) (.c (.q 7 [] (.mv (.c (.bool false)))) .nil))))) t41_3)
def x_iFalseBetween := b41_0
theorem u41_0 : vcK P x_iFalseBetween k e w = vcK P b41_0 k e w := rfl
def r_iFalseBetween : List XO := [(.mv (.t 6)), (.mv (.t 7))]
theorem c_iFalseBetween : convF Tryz.prog [56, 58, 59, 60, 61, 62, 72, 73, 77, 97, 98, 109, 110, 111, 112, 115, 128, 136] Tryz.f41 [([2, 3, 4], []), ([2, 3, 4, 29], []), ([6, 7], []), ([6, 7], [])] = some (x_iFalseBetween, r_iFalseBetween) := by kernel_rfl
def us_iFalseBetween :=  (aI (aI @u41_0 @u41_1) (aI @u41_2 @u41_3))
abbrev b42_1 : X := (.cond (.t 23) (.seq (.reg [6, 7] (.c (.q 6 [] (.mv (.c (.bool false)))) (.c (.q 7 [] (.mv (.c (.bool false)))) .nil))) .ret) .skip)
def t42_1 := b42_1
theorem u42_1 : vcK P t42_1 k e w = vcK P b42_1 k e w := rfl
abbrev b42_2 : X := (.seq (.reg [6, 7] (.c (.q 24 [] (.lda 3 (.t 3))) (.c (.q 25 [] (.lda 3 (.t 4))) (.c (.q 26 [] (.mv (.t 2))) (.c (.e (some 27) [] (.call false 92 [(.t 24), (.t 25), (.t 26)])) (.c (.q 6 [] (.mv (.t 27))) (.c (.q 7 [] (.mv (.c (.bool true)))) .nil))))))) .ret)
def t42_2 := b42_2
theorem u42_2 : vcK P t42_2 k e w = vcK P b42_2 k e w := rfl
abbrev b42_3 : X := (.seq (.seq (.reg [2, 3, 4, 23] (.c (.q 8 [] (.lda 3 (.t 3))) (.c (.q 9 [] (.mv (.t 2))) (.c (.e (some 10) [] (.call false 100 [(.t 8), (.t 9)])) (.c (.q 11 [] (.not (.t 10))) (.c (.q 12 [] (.mv (.t 11))) (.c (.q 13 [(12, false)] (.lda 3 (.t 4))) (.c (.e (some 14) [(12, false)] (.call false 57 [(.t 13)])) (.c (.q 15 [(12, false)] (.not (.t 14))) (.c (.q 16 [] (.pick (.t 12) (.c (.bool true)) (.t 15))) (.c (.q 17 [] (.mv (.t 16))) (.c (.q 18 [(17, false)] (.fa 1 (.t 3))) (.c (.q 19 [(17, false)] (.ld (.t 18))) (.c (.q 20 [(17, false)] (.fa 1 (.t 4))) (.c (.q 21 [(17, false)] (.ld (.t 20))) (.c (.q 22 [(17, false)] (.bin .neq (.t 19) (.t 21))) (.c (.q 23 [] (.pick (.t 17) (.c (.bool true)) (.t 22))) .nil))))))))))))))))) t42_1) t42_2)
def t42_3 := b42_3
theorem u42_3 : vcK P t42_3 k e w = vcK P b42_3 k e w := rfl
abbrev b42_0 : X := (.seq (.reg [2, 3, 4] (.c (.e (some 3) [] (.box 25 (.t 0))) (.c (.e (some 4) [] (.box 25 (.t 1))) (.c (.q 6 [] (.mv (.c (.bool false)))) (.c (.q 7 [] (.mv (.c (.bool false)))) .nil))))) t42_3)
def x_sFalseBetween := b42_0
theorem u42_0 : vcK P x_sFalseBetween k e w = vcK P b42_0 k e w := rfl
def r_sFalseBetween : List XO := [(.mv (.t 6)), (.mv (.t 7))]
theorem c_sFalseBetween : convF Tryz.prog [56, 58, 59, 60, 61, 62, 72, 73, 77, 97, 98, 109, 110, 111, 112, 115, 128, 136] Tryz.f42 [([2, 3, 4], []), ([2, 3, 4, 23], []), ([6, 7], []), ([6, 7], [])] = some (x_sFalseBetween, r_sFalseBetween) := by kernel_rfl
def us_sFalseBetween :=  (aI (aI @u42_0 @u42_1) (aI @u42_2 @u42_3))
abbrev b100_1 : X := (.seq (.reg [4] (.c (.q 5 [] (.lda 3 (.t 2))) (.c (.e (some 6) [] (.call false 57 [(.t 5)])) (.c (.q 7 [] (.mv (.t 6))) (.c (.q 8 [(7, true)] (.mv (.t 1))) (.c (.e (some 9) [(7, true)] (.call false 103 [(.t 8)])) (.c (.q 10 [] (.pick (.t 7) (.t 9) (.c (.bool false)))) (.c (.q 11 [] (.mv (.t 10))) (.c (.q 12 [(11, true)] (.mv (.t 1))) (.c (.q 13 [(11, true)] (.len (.t 12))) (.c (.q 14 [(11, true)] (.fa 1 (.t 2))) (.c (.q 15 [(11, true)] (.ld (.t 14))) (.c (.q 16 [(11, true)] (.bin .eql (.t 13) (.t 15))) (.c (.q 17 [] (.pick (.t 11) (.t 16) (.c (.bool false)))) (.c (.q 4 [] (.mv (.t 17))) .nil))))))))))))))) .ret)
def t100_1 := b100_1
theorem u100_1 : vcK P t100_1 k e w = vcK P b100_1 k e w := rfl
abbrev b100_0 : X := (.seq (.reg [1, 2] (.c (.e (some 2) [] (.box 25 (.t 0))) (.c (.q 4 [] (.mv (.c (.bool false)))) .nil))) t100_1)
def x_sl11Asked := b100_0
theorem u100_0 : vcK P x_sl11Asked k e w = vcK P b100_0 k e w := rfl
def r_sl11Asked : List XO := [(.mv (.t 4))]
theorem c_sl11Asked : convF Tryz.prog [56, 58, 59, 60, 61, 62, 72, 73, 77, 97, 98, 109, 110, 111, 112, 115, 128, 136] Tryz.f100 [([1, 2], []), ([4], [])] = some (x_sl11Asked, r_sl11Asked) := by kernel_rfl
def us_sl11Asked :=  (aI @u100_0 @u100_1)
end
theorem ifalseSet_okw (nm nm2 : Bs) (st : Nat) (v v2 : Value) (cs cs2 : List Bs) (hm : IsMethod nm st cs) (hm' : IsMethod nm2 st cs2) (w : World) (h : Sq fS 1 w v cs) (h' : Sq fS 1 w v2 cs2) : Fn 85 [mV nm st v, mV nm2 st v2] w (fun r w' => ∃ m L, r = .map (some m) ∧ SetAt w' m L ∧ w.heap.size ≤ m ∧ ∀ x, x ∈ L ↔ x ∈ falseL (leadR st cs) (leadR st cs2)) := by
  have h38 : 3 ≤ st ∧ st ≤ 8 := by have := hm.2.1; omega
  have hcl := hm.2.2.1
  have hcl2 := hm'.2.2.1
  have hR2 := leadR_rows h38 cs2
  have hRl2 := leadR_len st cs2
  have hR := leadR_rows h38 cs
  have hRl := leadR_len st cs
  have hr0 : IsRow (roundsL st) := roundsL_row st h38
  (refine callsV_of mix Tryz.func85 c_ifalseSet ?_; simp only [↓vsd, vsn, gW, qd, qv, ev, pick, argE, zipE, ne_eq, eq_self, forall_const, implies_true, if_true, if_false, reduceIte, reduceCtorEq, Nat.reduceEqDiff, Nat.reduceAdd, Nat.reduceLT, ↓us_ifalseSet, r_ifalseSet])
  refine m_al ?_
  rintro b1 w1 hb1 hblk1 hx1 hs1
  have h1 : Blk w1 b1 (fM nm st v) 25 := hblk1
  simp only [↓vsd, vsn, gW, qd, qv, ev, pick, argE, zipE, ne_eq, eq_self, forall_const, implies_true, if_true, if_false, reduceIte, reduceCtorEq, Nat.reduceEqDiff, Nat.reduceAdd, Nat.reduceLT, ↓us_ifalseSet, r_ifalseSet]
  refine m_al ?_
  rintro b2 w2 hb2 hblk2 hx2 hs2
  have h2 : Blk w2 b2 (fM nm2 st v2) 25 := hblk2
  have h12 := h1.ext hx2
  have hx02 := hx1.trans hx2
  simp only [↓vsd, vsn, gW, qd, qv, ev, pick, argE, zipE, ne_eq, eq_self, forall_const, implies_true, if_true, if_false, reduceIte, reduceCtorEq, Nat.reduceEqDiff, Nat.reduceAdd, Nat.reduceLT, ↓us_ifalseSet, r_ifalseSet]
  refine m_mkset ?_
  rintro m w3 hmb hm3 hx3 hs3
  have hx03 := hx02.trans hx3
  have h13 := h12.ext hx3
  have h23 := h2.ext hx3
  simp only [↓vsd, vsn, gW, qd, qv, ev, pick, argE, zipE, ne_eq, eq_self, forall_const, implies_true, if_true, if_false, reduceIte, reduceCtorEq, Nat.reduceEqDiff, Nat.reduceAdd, Nat.reduceLT, ↓us_ifalseSet, r_ifalseSet, h13.facts, h23.facts, fMg]
  refine m_call (irounds_ok st (by omega) _) ?_
  rintro _ w4 hx4 rfl
  have hx4 : Ext w3 w4 := by first | exact hx4 | exact ud hx4 | exact ud (ud hx4)
  simp only [↓vsd, vsn, gW, qd, qv, ev, pick, argE, zipE, ne_eq, eq_self, forall_const, implies_true, if_true, if_false, reduceIte, reduceCtorEq, Nat.reduceEqDiff, Nat.reduceAdd, Nat.reduceLT, ↓us_ifalseSet, r_ifalseSet]
  refine m_call (ileadRows_ok nm st v cs (roundsL st) hm hr0 _ (by first | exact h.ext (hx03.trans hx4) | exact (h.ext (hx03.trans hx4)).ext (dr (Ext.refl _)))) ?_
  rintro x w5 hx5 ho5
  have hx5 : Ext w4 w5 := by first | exact hx5 | exact ud hx5 | exact ud (ud hx5)
  have hx35 := hx4.trans hx5
  have hx05 := hx03.trans hx35
  have hm5 := hm3.ext hx35
  have h25 := h23.ext hx35
  have hq5 : Sq fS 1 w5 x (leadR st cs) := ho5.sq
  have ho5 : Own fS 1 9 w4.heap.size w5 x (leadR st cs) := by first | exact ho5 | exact ho5.mono (by show w4.heap.size ≤ _; exact Nat.le_refl _)
  have hmlt := hm3.lt
  simp only [↓vsd, vsn, gW, qd, qv, ev, pick, argE, zipE, ne_eq, eq_self, forall_const, implies_true, if_true, if_false, reduceIte, reduceCtorEq, Nat.reduceEqDiff, Nat.reduceAdd, Nat.reduceLT, ↓us_ifalseSet, r_ifalseSet, hq5.facts]
  refine m_upto (leadR st cs).length (fun i vs w' => vs = [.int .i64 i] ∧ (∃ L, SetAt w' m L ∧ ∀ x, x ∈ L ↔ x ∈ falseL ((leadR st cs).take i) (leadR st cs2)) ∧ Ext w2 w' ∧ Own fS 1 9 w4.heap.size w' x (leadR st cs)) ⟨rfl, ⟨[], hm5, fun x => by simp [falseL]⟩, hx3.trans hx35, ho5⟩ ?_
  rintro i vs w6 hi ⟨rfl, ⟨L, hm6, hL⟩, hx6, ho6⟩
  have hq6 := ho6.sq
  by_cases hli : i < (leadR st cs).length
  · have hliI : (i : Int) < (leadR st cs).length := by omega
    have hliJ : ¬ ((leadR st cs).length : Int) ≤ i := by omega
    have a6 := hq6.at1 [] hli
    have h26 := h2.ext hx6
    have hri := hR _ (getD_mem [] hli)
    have hfs := false_snoc (B := leadR st cs2) hli
    generalize (leadR st cs).getD i [] = r at *
    simp only [↓vsd, vsn, gW, qd, qv, ev, pick, argE, zipE, ne_eq, eq_self, forall_const, implies_true, if_true, if_false, reduceIte, reduceCtorEq, Nat.reduceEqDiff, Nat.reduceAdd, Nat.reduceLT, ↓us_ifalseSet, r_ifalseSet, hliI, hq6.facts, a6, h26.facts, fMg]
    refine ⟨by omega, m_call (irounds_ok st (by omega) _) ?_⟩
    rintro _ w7 hx7 rfl
    have hx7 : Ext w6 w7 := by first | exact hx7 | exact ud hx7 | exact ud (ud hx7)
    simp only [↓vsd, vsn, gW, qd, qv, ev, pick, argE, zipE, ne_eq, eq_self, forall_const, implies_true, if_true, if_false, reduceIte, reduceCtorEq, Nat.reduceEqDiff, Nat.reduceAdd, Nat.reduceLT, ↓us_ifalseSet, r_ifalseSet]
    refine m_call (ileadRows_ok nm2 st v2 cs2 (roundsL st) hm' hr0 _ (by first | exact h'.ext ((hx02.trans hx6).trans hx7) | exact (h'.ext ((hx02.trans hx6).trans hx7)).ext (dr (Ext.refl _)))) ?_
    rintro y w8 hx8 ho8
    have hx8 : Ext w7 w8 := by first | exact hx8 | exact ud hx8 | exact ud (ud hx8)
    have hx68 := hx7.trans hx8
    have hm8 := hm6.ext hx68
    have ho68 := ho6.ext hx68
    have ho8 : Own fS 1 9 w7.heap.size w8 y (leadR st cs2) := by first | exact ho8 | exact ho8.mono (by show w7.heap.size ≤ _; exact Nat.le_refl _)
    have hx28 := hx6.trans hx68
    have hq8 := ho8.sq
    simp only [↓vsd, vsn, gW, qd, qv, ev, pick, argE, zipE, ne_eq, eq_self, forall_const, implies_true, if_true, if_false, reduceIte, reduceCtorEq, Nat.reduceEqDiff, Nat.reduceAdd, Nat.reduceLT, ↓us_ifalseSet, r_ifalseSet, hq8.facts]
    refine m_upto (leadR st cs2).length (fun j vs w' => vs = [.int .i64 j] ∧ (∃ L, SetAt w' m L ∧ ∀ x, x ∈ L ↔ x ∈ falseL ((leadR st cs).take i) (leadR st cs2) ∨ ∃ s ∈ (leadR st cs2).take j, x = timesL r (turnL s)) ∧ Ext w2 w' ∧ Own fS 1 9 w4.heap.size w' x (leadR st cs) ∧ Own fS 1 9 w7.heap.size w' y (leadR st cs2)) ⟨rfl, ⟨L, hm8, fun x => by simp [hL]⟩, hx28, ho68, ho8⟩ ?_
    rintro j vs w9 hj ⟨rfl, ⟨L9, hm9, hL9⟩, hx9, ho9, hy9⟩
    have hq9 := hy9.sq
    by_cases hlj : j < (leadR st cs2).length
    · have hljI : (j : Int) < (leadR st cs2).length := by omega
      have hljJ : ¬ ((leadR st cs2).length : Int) ≤ j := by omega
      have a9 := hq9.at1 [] hlj
      have hrj := hR2 _ (getD_mem [] hlj)
      have htk := take_snocB hlj
      generalize (leadR st cs2).getD j [] = s at *
      simp only [↓vsd, vsn, gW, qd, qv, ev, pick, argE, zipE, ne_eq, eq_self, forall_const, implies_true, if_true, if_false, reduceIte, reduceCtorEq, Nat.reduceEqDiff, Nat.reduceAdd, Nat.reduceLT, ↓us_ifalseSet, r_ifalseSet, hljI, hq9.facts, a9]
      refine ⟨by omega, m_call (iturned_ok s hrj.1 _) ?_⟩
      rintro _ w10 hx10 rfl
      have hx10 : Ext w9 w10 := by first | exact hx10 | exact ud hx10 | exact ud (ud hx10)
      simp only [↓vsd, vsn, gW, qd, qv, ev, pick, argE, zipE, ne_eq, eq_self, forall_const, implies_true, if_true, if_false, reduceIte, reduceCtorEq, Nat.reduceEqDiff, Nat.reduceAdd, Nat.reduceLT, ↓us_ifalseSet, r_ifalseSet]
      refine m_call (itimes_ok r (turnL s) (turnL_row hrj.1) (by rw [turnL_len, hri.2, hrj.2]) _) ?_
      rintro _ w11 hx11 rfl
      have hx11 : Ext w10 w11 := by first | exact hx11 | exact ud hx11 | exact ud (ud hx11)
      have hx911 := hx10.trans hx11
      have hm11 := hm9.ext hx911
      have ho11 := ho9.ext hx911
      have hy11 := hy9.ext hx911
      simp only [↓vsd, vsn, gW, qd, qv, ev, pick, argE, zipE, ne_eq, eq_self, forall_const, implies_true, if_true, if_false, reduceIte, reduceCtorEq, Nat.reduceEqDiff, Nat.reduceAdd, Nat.reduceLT, ↓us_ifalseSet, r_ifalseSet]
      refine m_put hm11 ?_
      rintro w12 hm12 hu12
      have hx12 : Ext w2 w12 := hu12.below (hx9.trans hx911) (by omega)
      simp only [↓vsd, vsn, gW, qd, qv, ev, pick, argE, zipE, ne_eq, eq_self, forall_const, implies_true, if_true, if_false, reduceIte, reduceCtorEq, Nat.reduceEqDiff, Nat.reduceAdd, Nat.reduceLT, ↓us_ifalseSet, r_ifalseSet]
      refine ⟨inR_i64 (by omega), UpTo.next hlj ⟨rfl, ⟨_, hm12, fun z => ?_⟩, hx12, ho11.upd hu12 (hm11.apart ho11), hy11.upd hu12 (hm11.apart hy11)⟩⟩
      rw [put1_mem, hL9, htk]
      constructor
      · rintro ((h1 | ⟨q, h1, e⟩) | e)
        · exact .inl h1
        · exact .inr ⟨q, List.mem_append.2 (.inl h1), e⟩
        · exact .inr ⟨s, List.mem_append.2 (.inr (List.mem_singleton.2 rfl)), e⟩
      · rintro (h1 | ⟨q, h1, e⟩)
        · exact .inl (.inl h1)
        · rcases List.mem_append.1 h1 with h1 | h1
          · exact .inl (.inr ⟨q, h1, e⟩)
          · rw [List.mem_singleton.1 h1] at e; exact .inr e
    · obtain rfl : j = (leadR st cs2).length := by omega
      have hljI : ¬ (((leadR st cs2).length : Nat) : Int) < (leadR st cs2).length := by omega
      rw [List.take_length] at hL9
      simp only [↓vsd, vsn, gW, qd, qv, ev, pick, argE, zipE, ne_eq, eq_self, forall_const, implies_true, if_true, if_false, reduceIte, reduceCtorEq, Nat.reduceEqDiff, Nat.reduceAdd, Nat.reduceLT, ↓us_ifalseSet, r_ifalseSet, hljI]
      exact ⟨inR_i64 (by omega), UpTo.next hli ⟨rfl, ⟨L9, hm9, fun z => by rw [hL9, hfs]⟩, hx9, ho9⟩⟩
  · obtain rfl : i = (leadR st cs).length := by omega
    have hliI : ¬ (((leadR st cs).length : Nat) : Int) < (leadR st cs).length := by omega
    simp only [↓vsd, vsn, gW, qd, qv, ev, pick, argE, zipE, ne_eq, eq_self, forall_const, implies_true, if_true, if_false, reduceIte, reduceCtorEq, Nat.reduceEqDiff, Nat.reduceAdd, Nat.reduceLT, ↓us_ifalseSet, r_ifalseSet, hliI]
    rw [List.take_length] at hL
    exact ⟨hx02.trans hx6, m, L, rfl, hm6, by have := hx02.size; omega, hL⟩
/-- The lead of A from rounds and that of B from f have a row in common: the reference looks. -/
theorem sl14False_ok (nm nm2 : Bs) (st : Nat) (v v2 : Value) (cs cs2 : List Bs) (f : Bs) (hm : IsMethod nm st cs) (hm' : IsMethod nm2 st cs2) (hf : IsRow f) (lf : f.length = st) (w : World) (h : Sq fS 1 w v cs) (h' : Sq fS 1 w v2 cs2) :
    Fn 92 [mV nm st v, mV nm2 st v2, S f] w (fun r _ => r = .bool (decide (f ∈ falseL (leadR st cs) (leadR st cs2)))) := by
  have h38 : 3 ≤ st ∧ st ≤ 8 := by have := hm.2.1; omega
  have hcl := hm.2.2.1
  have hcl2 := hm'.2.2.1
  have hr0 : IsRow (roundsL st) := roundsL_row st h38
  have hmi := meet_iff (leadR_rows h38 cs) (leadR_rows h38 cs2) hf lf
  have he : (leadR st cs2).map (timesL f) = rowsU f cs2 cs2.length := by rw [rowsU_times hf, lf]; rfl
  rw [he] at hmi
  (refine callsV_of mix Tryz.func92 c_sl14False ?_; simp only [↓vsd, vsn, gW, qd, qv, ev, pick, argE, zipE, ne_eq, eq_self, forall_const, implies_true, if_true, if_false, reduceIte, reduceCtorEq, Nat.reduceEqDiff, Nat.reduceAdd, Nat.reduceLT, ↓us_sl14False, r_sl14False])
  refine m_al ?_
  rintro b1 w1 hb1 hblk1 hx1 hs1
  have h1 : Blk w1 b1 (fM nm st v) 25 := hblk1
  simp only [↓vsd, vsn, gW, qd, qv, ev, pick, argE, zipE, ne_eq, eq_self, forall_const, implies_true, if_true, if_false, reduceIte, reduceCtorEq, Nat.reduceEqDiff, Nat.reduceAdd, Nat.reduceLT, ↓us_sl14False, r_sl14False]
  refine m_al ?_
  rintro b2 w2 hb2 hblk2 hx2 hs2
  have h2 : Blk w2 b2 (fM nm2 st v2) 25 := hblk2
  have h12 := h1.ext hx2
  have hx02 := hx1.trans hx2
  simp only [↓vsd, vsn, gW, qd, qv, ev, pick, argE, zipE, ne_eq, eq_self, forall_const, implies_true, if_true, if_false, reduceIte, reduceCtorEq, Nat.reduceEqDiff, Nat.reduceAdd, Nat.reduceLT, ↓us_sl14False, r_sl14False, h2.facts, fMg]
  refine m_call (sl11Lead_ok nm2 st v2 cs2 f hm' hf _ (by first | exact h'.ext hx02 | exact h'.ext (dr hx02))) ?_
  rintro x w3 hx3 ho3
  have hx3 : Ext w2 w3 := by first | exact hx3 | exact ud hx3 | exact ud (ud hx3)
  have hx03 := hx02.trans hx3
  have h13 := h12.ext hx3
  simp only [↓vsd, vsn, gW, qd, qv, ev, pick, argE, zipE, ne_eq, eq_self, forall_const, implies_true, if_true, if_false, reduceIte, reduceCtorEq, Nat.reduceEqDiff, Nat.reduceAdd, Nat.reduceLT, ↓us_sl14False, r_sl14False, h13.facts, fMg]
  refine m_call (sl1Rounds_ok st (by omega) _) ?_
  rintro _ w4 hx4 rfl
  have hx4 : Ext w3 w4 := by first | exact hx4 | exact ud hx4 | exact ud (ud hx4)
  have hx04 := hx03.trans hx4
  have h14 := h13.ext hx4
  simp only [↓vsd, vsn, gW, qd, qv, ev, pick, argE, zipE, ne_eq, eq_self, forall_const, implies_true, if_true, if_false, reduceIte, reduceCtorEq, Nat.reduceEqDiff, Nat.reduceAdd, Nat.reduceLT, ↓us_sl14False, r_sl14False, h13.facts, h14.facts, fMg]
  refine m_call (sl11Lead_ok nm st v cs (roundsL st) hm hr0 _ (by first | exact h.ext hx04 | exact h.ext (dr hx04))) ?_
  rintro y w5 hx5 ho5
  have hx5 : Ext w4 w5 := by first | exact hx5 | exact ud hx5 | exact ud (ud hx5)
  have hx05 := hx04.trans hx5
  have hq3 := (ho3.sq.ext hx4).ext hx5
  have hq5 : Sq fS 1 w5 y (leadR st cs) := ho5.sq
  have hRl := leadR_len st cs
  have hOl := rowsU_len f cs2 cs2.length
  generalize rowsU f cs2 cs2.length = O at *
  generalize leadR st cs = R at *
  simp only [↓vsd, vsn, gW, qd, qv, ev, pick, argE, zipE, ne_eq, eq_self, forall_const, implies_true, if_true, if_false, reduceIte, reduceCtorEq, Nat.reduceEqDiff, Nat.reduceAdd, Nat.reduceLT, ↓us_sl14False, r_sl14False, hq5.facts]
  refine m_upto R.length (fun i vs w' => vs = [.int .i64 i] ∧ (∀ r ∈ R.take i, r ∉ O) ∧ Ext w5 w') ⟨rfl, by simp, Ext.refl _⟩ ?_
  rintro i vs w6 hi ⟨rfl, hno, hx6⟩
  have hq6 := hq5.ext hx6
  have hO6 := hq3.ext hx6
  by_cases hlt : i < R.length
  · have hltI : (i : Int) < R.length := by omega
    have hltJ : ¬ (R.length : Int) ≤ i := by omega
    have a6 := hq6.at1 [] hlt
    simp only [↓vsd, vsn, gW, qd, qv, ev, pick, argE, zipE, ne_eq, eq_self, forall_const, implies_true, if_true, if_false, reduceIte, reduceCtorEq, Nat.reduceEqDiff, Nat.reduceAdd, Nat.reduceLT, ↓us_sl14False, r_sl14False, hltI, hltJ, hq6.facts, a6]
    refine ⟨by omega, m_call (sl1HasS_okz x O (R.getD i []) (by omega) _ (by first | exact hO6 | exact hO6.ext (dr (Ext.refl _)))) ?_⟩
    rintro _ w7 hx7 rfl
    have hx7 : Ext w6 w7 := by first | exact hx7 | exact ud hx7 | exact ud (ud hx7)
    have hx07 := (hx05.trans hx6).trans hx7
    by_cases hin : R.getD i [] ∈ O
    · simp only [↓vsd, vsn, gW, qd, qv, ev, pick, argE, zipE, ne_eq, eq_self, forall_const, implies_true, if_true, if_false, reduceIte, reduceCtorEq, Nat.reduceEqDiff, Nat.reduceAdd, Nat.reduceLT, ↓us_sl14False, r_sl14False, hin]
      exact ⟨hx07, (decide_eq_true (hmi.2 ⟨_, getD_mem [] hlt, hin⟩)).symm⟩
    · simp only [↓vsd, vsn, gW, qd, qv, ev, pick, argE, zipE, ne_eq, eq_self, forall_const, implies_true, if_true, if_false, reduceIte, reduceCtorEq, Nat.reduceEqDiff, Nat.reduceAdd, Nat.reduceLT, ↓us_sl14False, r_sl14False, hin]
      refine ⟨inR_i64 (by omega), UpTo.next hlt ⟨rfl, fun r hr => ?_, hx6.trans hx7⟩⟩
      rw [take_snocB hlt] at hr
      rcases List.mem_append.1 hr with h1 | h1
      · exact hno r h1
      · rw [List.mem_singleton.1 h1]; exact hin
  · obtain rfl : i = R.length := by omega
    have hltI : ¬ ((R.length : Nat) : Int) < R.length := by omega
    rw [List.take_length] at hno
    simp only [↓vsd, vsn, gW, qd, qv, ev, pick, argE, zipE, ne_eq, eq_self, forall_const, implies_true, if_true, if_false, reduceIte, reduceCtorEq, Nat.reduceEqDiff, Nat.reduceAdd, Nat.reduceLT, ↓us_sl14False, r_sl14False, hltI]
    exact ⟨hx05.trans hx6, (decide_eq_false fun hh => by obtain ⟨r, h1, h2⟩ := hmi.1 hh; exact hno r h1 h2).symm⟩
/-- FalseBetween is asked for two methods of one stage and a row of it. -/
def FbOk (nm : Bs) (st : Int) (cs : List Bs) (nm2 : Bs) (st2 : Int) (cs2 : List Bs) (f : Bs) : Prop := IsMethod nm st cs ∧ IsMethod nm2 st2 cs2 ∧ st = st2 ∧ IsRow f ∧ (f.length : Int) = st
instance (nm : Bs) (st : Int) (cs : List Bs) (nm2 : Bs) (st2 : Int) (cs2 : List Bs) (f : Bs) : Decidable (FbOk nm st cs nm2 st2 cs2 f) := by unfold FbOk; infer_instance
def fbB (nm : Bs) (st : Int) (cs : List Bs) (nm2 : Bs) (st2 : Int) (cs2 : List Bs) (f : Bs) : Bool := decide (FbOk nm st cs nm2 st2 cs2 f) && decide (f ∈ falseL (leadR st.toNat cs) (leadR st.toNat cs2))
def fbV (nm : Bs) (st : Int) (cs : List Bs) (nm2 : Bs) (st2 : Int) (cs2 : List Bs) (f : Bs) : Value := .tuple ⟨[.bool (fbB nm st cs nm2 st2 cs2 f), .bool (decide (FbOk nm st cs nm2 st2 cs2 f))]⟩
theorem fbV_no {nm : Bs} {st : Int} {cs : List Bs} {nm2 : Bs} {st2 : Int} {cs2 : List Bs} {f : Bs} (h : ¬ FbOk nm st cs nm2 st2 cs2 f) : Value.tuple ⟨[.bool false, .bool false]⟩ = fbV nm st cs nm2 st2 cs2 f := by
  rw [fbV, fbB, decide_eq_false h]; rfl
theorem fbV_yes {nm : Bs} {st : Nat} {cs : List Bs} {nm2 : Bs} {st2 : Int} {cs2 : List Bs} {f : Bs} (h : FbOk nm st cs nm2 st2 cs2 f) : Value.tuple ⟨[.bool (decide (f ∈ falseL (leadR st cs) (leadR st cs2))), .bool true]⟩ = fbV nm st cs nm2 st2 cs2 f := by
  rw [fbV, fbB, decide_eq_true h, Bool.true_and, Int.toNat_natCast]
theorem iFalseBetween_ok (nm nm2 : Bs) (st st2 : Int) (v v2 : Value) (cs cs2 : List Bs) (f : Bs) (hnm : nm.length ≤ 1048576) (hs : ∀ c ∈ cs, c.length ≤ 1048576) (hl : cs.length ≤ 1000000) (hnm' : nm2.length ≤ 1048576) (hs' : ∀ c ∈ cs2, c.length ≤ 1048576) (hl' : cs2.length ≤ 1000000) (w : World) (h : Sq fS 1 w v cs) (h' : Sq fS 1 w v2 cs2) :
    Fn 41 [mV nm st v, mV nm2 st2 v2, S f] w (fun r _ => r = fbV nm st cs nm2 st2 cs2 f) := by
  (refine callsV_of mix Tryz.func41 c_iFalseBetween ?_; simp only [↓vsd, vsn, gW, qd, qv, ev, pick, argE, zipE, ne_eq, eq_self, forall_const, implies_true, if_true, if_false, reduceIte, reduceCtorEq, Nat.reduceEqDiff, Nat.reduceAdd, Nat.reduceLT, ↓us_iFalseBetween, r_iFalseBetween])
  refine m_al ?_
  rintro b1 w1 hb1 hblk1 hx1 hs1
  have h1 : Blk w1 b1 (fM nm st v) 25 := hblk1
  simp only [↓vsd, vsn, gW, qd, qv, ev, pick, argE, zipE, ne_eq, eq_self, forall_const, implies_true, if_true, if_false, reduceIte, reduceCtorEq, Nat.reduceEqDiff, Nat.reduceAdd, Nat.reduceLT, ↓us_iFalseBetween, r_iFalseBetween]
  refine m_al ?_
  rintro b2 w2 hb2 hblk2 hx2 hs2
  have h2 : Blk w2 b2 (fM nm2 st2 v2) 25 := hblk2
  have h12 := h1.ext hx2
  have hx02 := hx1.trans hx2
  simp only [↓vsd, vsn, gW, qd, qv, ev, pick, argE, zipE, ne_eq, eq_self, forall_const, implies_true, if_true, if_false, reduceIte, reduceCtorEq, Nat.reduceEqDiff, Nat.reduceAdd, Nat.reduceLT, ↓us_iFalseBetween, r_iFalseBetween, h12.facts, fMg]
  refine m_call (iGoodMethod_ok nm st v cs hnm hs (by omega) _ (by first | exact h.ext hx02 | exact h.ext (dr hx02))) ?_
  rintro _ w3 hx3 rfl
  have hx3 : Ext w2 w3 := by first | exact hx3 | exact ud hx3 | exact ud (ud hx3)
  have hx03 := hx02.trans hx3
  have h13 := h12.ext hx3
  have h23 := h2.ext hx3
  by_cases hm : IsMethod nm st cs
  · simp only [↓vsd, vsn, gW, qd, qv, ev, pick, argE, zipE, ne_eq, eq_self, forall_const, implies_true, if_true, if_false, reduceIte, reduceCtorEq, Nat.reduceEqDiff, Nat.reduceAdd, Nat.reduceLT, ↓us_iFalseBetween, r_iFalseBetween, hm, h23.facts, fMg]
    refine m_call (iGoodMethod_ok nm2 st2 v2 cs2 hnm' hs' (by omega) _ (by first | exact h'.ext hx03 | exact h'.ext (dr hx03))) ?_
    rintro _ w4 hx4 rfl
    have hx4 : Ext w3 w4 := by first | exact hx4 | exact ud hx4 | exact ud (ud hx4)
    have hx04 := hx03.trans hx4
    have h14 := h13.ext hx4
    have h24 := h23.ext hx4
    by_cases hm' : IsMethod nm2 st2 cs2
    · by_cases he : st = st2
      · subst he
        simp only [↓vsd, vsn, gW, qd, qv, ev, pick, argE, zipE, ne_eq, eq_self, forall_const, implies_true, if_true, if_false, reduceIte, reduceCtorEq, Nat.reduceEqDiff, Nat.reduceAdd, Nat.reduceLT, ↓us_iFalseBetween, r_iFalseBetween, hm', h14.facts, h24.facts, fMg]
        refine m_call (iisRowOf_ok st f _) ?_
        rintro _ w5 hx5 rfl
        have hx5 : Ext w4 w5 := by first | exact hx5 | exact ud hx5 | exact ud (ud hx5)
        have hx05 := hx04.trans hx5
        have h15 := h14.ext hx5
        have h25 := h24.ext hx5
        by_cases hr : IsRow f ∧ (f.length : Int) = st
        · have hok : FbOk nm st cs nm2 st cs2 f := ⟨hm, hm', rfl, hr⟩
          obtain ⟨n, rfl⟩ : ∃ n : Nat, st = n := ⟨st.toNat, by have := hm.2.1; omega⟩
          have hrd : (decide ((f.length : Int) = (n : Int)) && decide (IsRow f)) = true := by rw [decide_eq_true hr.1, decide_eq_true hr.2]; rfl
          simp only [↓vsd, vsn, gW, qd, qv, ev, pick, argE, zipE, ne_eq, eq_self, forall_const, implies_true, if_true, if_false, reduceIte, reduceCtorEq, Nat.reduceEqDiff, Nat.reduceAdd, Nat.reduceLT, ↓us_iFalseBetween, r_iFalseBetween, hrd, h15.facts, h25.facts, fMg]
          refine m_call (ifalseSet_okw nm nm2 n v v2 cs cs2 hm hm' _ (by first | exact h.ext hx05 | exact h.ext (dr hx05)) (by first | exact h'.ext hx05 | exact h'.ext (dr hx05))) ?_
          rintro _ w6 hx6 ⟨m, L, rfl, hM, _, hL⟩
          have hx6 : Ext w5 w6 := by first | exact hx6 | exact ud hx6 | exact ud (ud hx6)
          have k1 := (hM.look f).1
          have k2 := (hM.look f).2
          simp only [↓vsd, vsn, gW, qd, qv, ev, pick, argE, zipE, ne_eq, eq_self, forall_const, implies_true, if_true, if_false, reduceIte, reduceCtorEq, Nat.reduceEqDiff, Nat.reduceAdd, Nat.reduceLT, ↓us_iFalseBetween, r_iFalseBetween, k1, k2]
          rw [decide_eq_decide.2 (hL f)]
          exact ⟨hx05.trans hx6, fbV_yes hok⟩
        · have hrd : (decide ((f.length : Int) = st) && decide (IsRow f)) = false := by
            rw [Bool.and_eq_false_iff, decide_eq_false_iff_not, decide_eq_false_iff_not]
            by_cases h1 : IsRow f
            · exact .inl fun h2 => hr ⟨h1, h2⟩
            · exact .inr h1
          simp only [↓vsd, vsn, gW, qd, qv, ev, pick, argE, zipE, ne_eq, eq_self, forall_const, implies_true, if_true, if_false, reduceIte, reduceCtorEq, Nat.reduceEqDiff, Nat.reduceAdd, Nat.reduceLT, ↓us_iFalseBetween, r_iFalseBetween, hrd]
          exact ⟨hx05, fbV_no fun hh => hr hh.2.2.2⟩
      · simp only [↓vsd, vsn, gW, qd, qv, ev, pick, argE, zipE, ne_eq, eq_self, forall_const, implies_true, if_true, if_false, reduceIte, reduceCtorEq, Nat.reduceEqDiff, Nat.reduceAdd, Nat.reduceLT, ↓us_iFalseBetween, r_iFalseBetween, hm', h14.facts, h24.facts, fMg, he]
        exact ⟨hx04, fbV_no fun hh => he hh.2.2.1⟩
    · simp only [↓vsd, vsn, gW, qd, qv, ev, pick, argE, zipE, ne_eq, eq_self, forall_const, implies_true, if_true, if_false, reduceIte, reduceCtorEq, Nat.reduceEqDiff, Nat.reduceAdd, Nat.reduceLT, ↓us_iFalseBetween, r_iFalseBetween, hm']
      exact ⟨hx04, fbV_no fun hh => hm' hh.2.1⟩
  · simp only [↓vsd, vsn, gW, qd, qv, ev, pick, argE, zipE, ne_eq, eq_self, forall_const, implies_true, if_true, if_false, reduceIte, reduceCtorEq, Nat.reduceEqDiff, Nat.reduceAdd, Nat.reduceLT, ↓us_iFalseBetween, r_iFalseBetween, hm]
    exact ⟨hx03, fbV_no fun hh => hm hh.1⟩
theorem sl11Asked_ok (nm : Bs) (st : Int) (v : Value) (cs : List Bs) (f : Bs) (hnm : nm.length ≤ 1048576) (hs : ∀ c ∈ cs, c.length ≤ 1048576) (hl : cs.length ≤ 1000000) (w : World) (h : Sq fS 1 w v cs) : Fn 100 [mV nm st v, S f] w (fun r _ => r = .bool (decide (IsMethod nm st cs ∧ IsRow f ∧ (f.length : Int) = st))) := by
  (refine callsV_of mix Tryz.func100 c_sl11Asked ?_; simp only [↓vsd, vsn, gW, qd, qv, ev, pick, argE, zipE, ne_eq, eq_self, forall_const, implies_true, if_true, if_false, reduceIte, reduceCtorEq, Nat.reduceEqDiff, Nat.reduceAdd, Nat.reduceLT, ↓us_sl11Asked, r_sl11Asked])
  refine m_al ?_
  rintro b1 w1 hb1 hblk1 hx1 hs1
  have h1 : Blk w1 b1 (fM nm st v) 25 := hblk1
  simp only [↓vsd, vsn, gW, qd, qv, ev, pick, argE, zipE, ne_eq, eq_self, forall_const, implies_true, if_true, if_false, reduceIte, reduceCtorEq, Nat.reduceEqDiff, Nat.reduceAdd, Nat.reduceLT, ↓us_sl11Asked, r_sl11Asked, h1.facts, fMg]
  refine m_call (sl4Good_ok nm st v cs hnm hs (by omega) _ (by first | exact h.ext hx1 | exact h.ext (dr hx1))) ?_
  rintro _ w2 hx2 rfl
  have hx2 : Ext w1 w2 := by first | exact hx2 | exact ud hx2 | exact ud (ud hx2)
  have hx02 := hx1.trans hx2
  have h12 := h1.ext hx2
  by_cases hm : IsMethod nm st cs
  · simp only [↓vsd, vsn, gW, qd, qv, ev, pick, argE, zipE, ne_eq, eq_self, forall_const, implies_true, if_true, if_false, reduceIte, reduceCtorEq, Nat.reduceEqDiff, Nat.reduceAdd, Nat.reduceLT, ↓us_sl11Asked, r_sl11Asked, hm]
    refine m_call (sl1Row_ok f _) ?_
    rintro _ w3 hx3 rfl
    have hx3 : Ext w2 w3 := by first | exact hx3 | exact ud hx3 | exact ud (ud hx3)
    have hx03 := hx02.trans hx3
    have h13 := h12.ext hx3
    by_cases hr : IsRow f
    · simp only [↓vsd, vsn, gW, qd, qv, ev, pick, argE, zipE, ne_eq, eq_self, forall_const, implies_true, if_true, if_false, reduceIte, reduceCtorEq, Nat.reduceEqDiff, Nat.reduceAdd, Nat.reduceLT, ↓us_sl11Asked, r_sl11Asked, hr, h1.facts, h13.facts, fMg]
      exact hx03
    · simp only [↓vsd, vsn, gW, qd, qv, ev, pick, argE, zipE, ne_eq, eq_self, forall_const, implies_true, if_true, if_false, reduceIte, reduceCtorEq, Nat.reduceEqDiff, Nat.reduceAdd, Nat.reduceLT, ↓us_sl11Asked, r_sl11Asked, hr]
      exact hx03
  · simp only [↓vsd, vsn, gW, qd, qv, ev, pick, argE, zipE, ne_eq, eq_self, forall_const, implies_true, if_true, if_false, reduceIte, reduceCtorEq, Nat.reduceEqDiff, Nat.reduceAdd, Nat.reduceLT, ↓us_sl11Asked, r_sl11Asked, hm]
    exact hx02
theorem sFalseBetween_ok (nm nm2 : Bs) (st st2 : Int) (v v2 : Value) (cs cs2 : List Bs) (f : Bs) (hnm : nm.length ≤ 1048576) (hs : ∀ c ∈ cs, c.length ≤ 1048576) (hl : cs.length ≤ 1000000) (hnm' : nm2.length ≤ 1048576) (hs' : ∀ c ∈ cs2, c.length ≤ 1048576) (hl' : cs2.length ≤ 1000000) (w : World) (h : Sq fS 1 w v cs) (h' : Sq fS 1 w v2 cs2) :
    Fn 42 [mV nm st v, mV nm2 st2 v2, S f] w (fun r _ => r = fbV nm st cs nm2 st2 cs2 f) := by
  (refine callsV_of mix Tryz.func42 c_sFalseBetween ?_; simp only [↓vsd, vsn, gW, qd, qv, ev, pick, argE, zipE, ne_eq, eq_self, forall_const, implies_true, if_true, if_false, reduceIte, reduceCtorEq, Nat.reduceEqDiff, Nat.reduceAdd, Nat.reduceLT, ↓us_sFalseBetween, r_sFalseBetween])
  refine m_al ?_
  rintro b1 w1 hb1 hblk1 hx1 hs1
  have h1 : Blk w1 b1 (fM nm st v) 25 := hblk1
  simp only [↓vsd, vsn, gW, qd, qv, ev, pick, argE, zipE, ne_eq, eq_self, forall_const, implies_true, if_true, if_false, reduceIte, reduceCtorEq, Nat.reduceEqDiff, Nat.reduceAdd, Nat.reduceLT, ↓us_sFalseBetween, r_sFalseBetween]
  refine m_al ?_
  rintro b2 w2 hb2 hblk2 hx2 hs2
  have h2 : Blk w2 b2 (fM nm2 st2 v2) 25 := hblk2
  have h12 := h1.ext hx2
  have hx02 := hx1.trans hx2
  simp only [↓vsd, vsn, gW, qd, qv, ev, pick, argE, zipE, ne_eq, eq_self, forall_const, implies_true, if_true, if_false, reduceIte, reduceCtorEq, Nat.reduceEqDiff, Nat.reduceAdd, Nat.reduceLT, ↓us_sFalseBetween, r_sFalseBetween, h12.facts, fMg]
  refine m_call (sl11Asked_ok nm st v cs f hnm hs hl _ (by first | exact h.ext hx02 | exact h.ext (dr hx02))) ?_
  rintro _ w3 hx3 rfl
  have hx3 : Ext w2 w3 := by first | exact hx3 | exact ud hx3 | exact ud (ud hx3)
  have hx03 := hx02.trans hx3
  have h13 := h12.ext hx3
  have h23 := h2.ext hx3
  by_cases hm : IsMethod nm st cs ∧ IsRow f ∧ (f.length : Int) = st
  · have hmd := decide_eq_true hm
    simp only [↓vsd, vsn, gW, qd, qv, ev, pick, argE, zipE, ne_eq, eq_self, forall_const, implies_true, if_true, if_false, reduceIte, reduceCtorEq, Nat.reduceEqDiff, Nat.reduceAdd, Nat.reduceLT, ↓us_sFalseBetween, r_sFalseBetween, hmd, h23.facts, fMg]
    refine m_call (sl4Good_ok nm2 st2 v2 cs2 hnm' hs' (by omega) _ (by first | exact h'.ext hx03 | exact h'.ext (dr hx03))) ?_
    rintro _ w4 hx4 rfl
    have hx4 : Ext w3 w4 := by first | exact hx4 | exact ud hx4 | exact ud (ud hx4)
    have hx04 := hx03.trans hx4
    have h14 := h13.ext hx4
    have h24 := h23.ext hx4
    by_cases hm' : IsMethod nm2 st2 cs2
    · by_cases he : st = st2
      · subst he
        have hok : FbOk nm st cs nm2 st cs2 f := ⟨hm.1, hm', rfl, hm.2⟩
        simp only [↓vsd, vsn, gW, qd, qv, ev, pick, argE, zipE, ne_eq, eq_self, forall_const, implies_true, if_true, if_false, reduceIte, reduceCtorEq, Nat.reduceEqDiff, Nat.reduceAdd, Nat.reduceLT, ↓us_sFalseBetween, r_sFalseBetween, hm', h14.facts, h24.facts, fMg]
        obtain ⟨n, rfl⟩ : ∃ n : Nat, st = n := ⟨st.toNat, by have := hm'.2.1; omega⟩
        refine m_call (sl14False_ok nm nm2 n v v2 cs cs2 f hm.1 hm' hm.2.1 (by have := hm.2.2; omega) _ (by first | exact h.ext hx04 | exact h.ext (dr hx04)) (by first | exact h'.ext hx04 | exact h'.ext (dr hx04))) ?_
        rintro _ w6 hx6 rfl
        have hx6 : Ext w4 w6 := by first | exact hx6 | exact ud hx6 | exact ud (ud hx6)
        simp only [↓vsd, vsn, gW, qd, qv, ev, pick, argE, zipE, ne_eq, eq_self, forall_const, implies_true, if_true, if_false, reduceIte, reduceCtorEq, Nat.reduceEqDiff, Nat.reduceAdd, Nat.reduceLT, ↓us_sFalseBetween, r_sFalseBetween]
        exact ⟨hx04.trans hx6, fbV_yes hok⟩
      · simp only [↓vsd, vsn, gW, qd, qv, ev, pick, argE, zipE, ne_eq, eq_self, forall_const, implies_true, if_true, if_false, reduceIte, reduceCtorEq, Nat.reduceEqDiff, Nat.reduceAdd, Nat.reduceLT, ↓us_sFalseBetween, r_sFalseBetween, hm', h14.facts, h24.facts, fMg, he]
        exact ⟨hx04, fbV_no fun hh => he hh.2.2.1⟩
    · simp only [↓vsd, vsn, gW, qd, qv, ev, pick, argE, zipE, ne_eq, eq_self, forall_const, implies_true, if_true, if_false, reduceIte, reduceCtorEq, Nat.reduceEqDiff, Nat.reduceAdd, Nat.reduceLT, ↓us_sFalseBetween, r_sFalseBetween, hm']
      exact ⟨hx04, fbV_no fun hh => hm' hh.2.1⟩
  · have hmd := decide_eq_false hm
    simp only [↓vsd, vsn, gW, qd, qv, ev, pick, argE, zipE, ne_eq, eq_self, forall_const, implies_true, if_true, if_false, reduceIte, reduceCtorEq, Nat.reduceEqDiff, Nat.reduceAdd, Nat.reduceLT, ↓us_sFalseBetween, r_sFalseBetween, hmd]
    exact ⟨hx03, fbV_no fun hh => hm ⟨hh.1, hh.2.2.2⟩⟩
end Go.Proofs.YthopbkemkfjebaaGreat
