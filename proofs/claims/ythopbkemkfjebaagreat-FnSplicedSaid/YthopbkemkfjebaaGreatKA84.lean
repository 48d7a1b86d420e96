/-
  Truth by lead heads: false lead heads and clashes of both sides.
  Conditions: none.
-/
import Derived.Test.YthopbkemkfjebaaGreatKA17
import Derived.Test.YthopbkemkfjebaaGreatKA31
import Derived.Test.YthopbkemkfjebaaGreatKA34
import Derived.Test.YthopbkemkfjebaaGreatKA73
import Derived.Test.YthopbkemkfjebaaGreatKD3
import Derived.Test.YthopbkemkfjebaaGreatKPt
import Derived.Test.YthopbkemkfjebaaGreatKPx
set_option linter.unusedSimpArgs false
set_option linter.unusedVariables false
set_option linter.defProp false
namespace Go.Proofs.YthopbkemkfjebaaGreat
open Go Go.RowKit
section
variable (P : Program) (k : KT) (e : Env) (w : World)
abbrev b107_1 : X := (.cond (.t 15) (.seq (.reg [4] (.c (.q 4 [] (.mv (.c (.bool true)))) .nil)) .ret) .skip)
def t107_1 := b107_1
theorem u107_1 : vcK P t107_1 k e w = vcK P b107_1 k e w := rfl
abbrev b107_2 : X := (.seq (.reg [1, 7, 8, 9, 15] (.c (.q 13 [] (.mv (.t 6))) (.c (.q 14 [] (.mv (.t 1))) (.c (.q 15 [] (.bin .eql (.t 13) (.t 14))) .nil)))) t107_1)
def t107_2 := b107_2
theorem u107_2 : vcK P t107_2 k e w = vcK P b107_2 k e w := rfl
abbrev b107_3 : X := (.reg [1, 7, 8, 9] (.c (.q 16 [] (.bin .add (.t 9) (.c (.int .i64 1)))) (.c (.q 9 [] (.mv (.t 16))) .nil)))
def t107_3 := b107_3
theorem u107_3 : vcK P t107_3 k e w = vcK P b107_3 k e w := rfl
abbrev b107_4 : X := (.seq (.blk 1 (.seq (.reg [1, 6, 7, 8, 9] (.c (.q 11 [] (.ia 1 (.t 7) (.t 9))) (.c (.q 12 [] (.ld (.t 11))) (.c (.q 6 [] (.mv (.t 12))) .nil)))) t107_2)) t107_3)
def t107_4 := b107_4
theorem u107_4 : vcK P t107_4 k e w = vcK P b107_4 k e w := rfl
abbrev b107_5 : X := (.seq (.cond (.t 10) .skip (.exit 0)) t107_4)
def t107_5 := b107_5
theorem u107_5 : vcK P t107_5 k e w = vcK P b107_5 k e w := rfl
abbrev b107_6 : X := (.seq (.reg [1, 7, 8, 9, 10] (.c (.q 10 [] (.bin .lss (.t 9) (.t 8))) .nil)) t107_5)
def t107_6 := b107_6
theorem u107_6 : vcK P t107_6 k e w = vcK P b107_6 k e w := rfl
abbrev b107_7 : X := (.blk 0 (.loop [9] [1, 7, 8] t107_6))
def t107_7 := b107_7
theorem u107_7 : vcK P t107_7 k e w = vcK P b107_7 k e w := rfl
abbrev b107_8 : X := (.seq (.reg [4] (.c (.q 4 [] (.mv (.c (.bool false)))) .nil)) .ret)
def t107_8 := b107_8
theorem u107_8 : vcK P t107_8 k e w = vcK P b107_8 k e w := rfl
abbrev b107_9 : X := (.seq (.seq (.reg [1, 7, 8, 9] (.c (.q 7 [] (.mv (.t 0))) (.c (.q 8 [] (.lens (.t 7))) (.c (.q 9 [] (.mv (.c (.int .i64 0)))) .nil)))) t107_7) t107_8)
def t107_9 := b107_9
theorem u107_9 : vcK P t107_9 k e w = vcK P b107_9 k e w := rfl
abbrev b107_0 : X := (.seq (.reg [0, 1] (.c (.q 4 [] (.mv (.c (.bool false)))) .nil)) t107_9)
def x_sl1HasS := b107_0
theorem u107_0 : vcK P x_sl1HasS k e w = vcK P b107_0 k e w := rfl
def r_sl1HasS : List XO := [(.mv (.t 4))]
theorem c_sl1HasS : convF Tryz.prog [56, 58, 59, 60, 61, 62, 72, 73, 77, 97, 98, 109, 110, 111, 112, 115, 128, 136] Tryz.f107 [([0, 1], []), ([1, 7, 8, 9], []), ([9], [1, 7, 8]), ([1, 7, 8, 9, 10], []), ([1, 6, 7, 8, 9], []), ([1, 7, 8, 9, 15], []), ([4], []), ([1, 7, 8, 9], []), ([4], [])] = some (x_sl1HasS, r_sl1HasS) := by kernel_rfl
def us_sl1HasS :=  (aI (aI (aI @u107_0 @u107_1) (aI @u107_2 (aI @u107_3 @u107_4))) (aI (aI @u107_5 @u107_6) (aI @u107_7 (aI @u107_8 @u107_9))))
abbrev b85_1 : X := (.reg [3, 5, 7, 15, 16, 17, 25, 26, 27] (.c (.q 31 [] (.mv (.t 5))) (.c (.q 32 [] (.mv (.t 7))) (.c (.q 33 [] (.mv (.t 9))) (.c (.e (some 34) [] (.call false 88 [(.t 33)])) (.c (.e (some 35) [] (.call false 87 [(.t 32), (.t 34)])) (.c (.e none [] (.mup false .string (.t 31) (.t 35) (.c (.bool true)))) .nil)))))))
def t85_1 := b85_1
theorem u85_1 : vcK P t85_1 k e w = vcK P b85_1 k e w := rfl
abbrev b85_2 : X := (.reg [3, 5, 7, 15, 16, 17, 25, 26, 27] (.c (.q 36 [] (.bin .add (.t 27) (.c (.int .i64 1)))) (.c (.q 27 [] (.mv (.t 36))) .nil)))
def t85_2 := b85_2
theorem u85_2 : vcK P t85_2 k e w = vcK P b85_2 k e w := rfl
abbrev b85_3 : X := (.seq (.blk 3 (.seq (.reg [3, 5, 7, 9, 15, 16, 17, 25, 26, 27] (.c (.q 29 [] (.ia 1 (.t 25) (.t 27))) (.c (.q 30 [] (.ld (.t 29))) (.c (.q 9 [] (.mv (.t 30))) .nil)))) t85_1)) t85_2)
def t85_3 := b85_3
theorem u85_3 : vcK P t85_3 k e w = vcK P b85_3 k e w := rfl
abbrev b85_4 : X := (.seq (.cond (.t 28) .skip (.exit 2)) t85_3)
def t85_4 := b85_4
theorem u85_4 : vcK P t85_4 k e w = vcK P b85_4 k e w := rfl
abbrev b85_5 : X := (.seq (.reg [3, 5, 7, 15, 16, 17, 25, 26, 27, 28] (.c (.q 28 [] (.bin .lss (.t 27) (.t 26))) .nil)) t85_4)
def t85_5 := b85_5
theorem u85_5 : vcK P t85_5 k e w = vcK P b85_5 k e w := rfl
abbrev b85_6 : X := (.blk 2 (.loop [27] [3, 5, 7, 15, 16, 17, 25, 26] t85_5))
def t85_6 := b85_6
theorem u85_6 : vcK P t85_6 k e w = vcK P b85_6 k e w := rfl
abbrev b85_7 : X := (.seq (.drw [3, 5, 7, 15, 16, 17, 25, 26, 27] (.c (.q 21 [] (.lda 3 (.t 3))) (.c (.q 22 [] (.fa 1 (.t 3))) (.c (.q 23 [] (.ld (.t 22))) (.c (.q 27 [] (.mv (.c (.int .i64 0)))) (.c (.e (some 24) [] (.call false 131 [(.t 23)])) (.c (.e (some 25) [] (.call false 95 [(.t 21), (.t 24)])) (.c (.q 26 [] (.lens (.t 25))) .nil)))))))) t85_6)
def t85_7 := b85_7
theorem u85_7 : vcK P t85_7 k e w = vcK P b85_7 k e w := rfl
abbrev b85_8 : X := (.reg [3, 5, 15, 16, 17] (.c (.q 37 [] (.bin .add (.t 17) (.c (.int .i64 1)))) (.c (.q 17 [] (.mv (.t 37))) .nil)))
def t85_8 := b85_8
theorem u85_8 : vcK P t85_8 k e w = vcK P b85_8 k e w := rfl
abbrev b85_9 : X := (.seq (.blk 1 (.seq (.reg [3, 5, 7, 15, 16, 17] (.c (.q 19 [] (.ia 1 (.t 15) (.t 17))) (.c (.q 20 [] (.ld (.t 19))) (.c (.q 7 [] (.mv (.t 20))) .nil)))) t85_7)) t85_8)
def t85_9 := b85_9
theorem u85_9 : vcK P t85_9 k e w = vcK P b85_9 k e w := rfl
abbrev b85_10 : X := (.seq (.cond (.t 18) .skip (.exit 0)) t85_9)
def t85_10 := b85_10
theorem u85_10 : vcK P t85_10 k e w = vcK P b85_10 k e w := rfl
abbrev b85_11 : X := (.seq (.reg [3, 5, 15, 16, 17, 18] (.c (.q 18 [] (.bin .lss (.t 17) (.t 16))) .nil)) t85_10)
def t85_11 := b85_11
theorem u85_11 : vcK P t85_11 k e w = vcK P b85_11 k e w := rfl
abbrev b85_12 : X := (.blk 0 (.loop [17] [3, 5, 15, 16] t85_11))
def t85_12 := b85_12
theorem u85_12 : vcK P t85_12 k e w = vcK P b85_12 k e w := rfl
abbrev b85_13 : X := (.seq (.reg [4] (.c (.q 38 [] (.mv (.t 5))) (.c (.q 4 [] (.mv (.t 38))) .nil))) .ret)
def t85_13 := b85_13
theorem u85_13 : vcK P t85_13 k e w = vcK P b85_13 k e w := rfl
abbrev b85_14 : X := (.seq (.seq (.drw [3, 5, 15, 16, 17] (.c (.q 11 [] (.lda 3 (.t 2))) (.c (.q 12 [] (.fa 1 (.t 2))) (.c (.q 13 [] (.ld (.t 12))) (.c (.q 17 [] (.mv (.c (.int .i64 0)))) (.c (.e (some 14) [] (.call false 131 [(.t 13)])) (.c (.e (some 15) [] (.call false 95 [(.t 11), (.t 14)])) (.c (.q 16 [] (.lens (.t 15))) .nil)))))))) t85_12) t85_13)
def t85_14 := b85_14
theorem u85_14 : vcK P t85_14 k e w = vcK P b85_14 k e w := rfl
abbrev b85_15 : X := (.seq (.reg [2, 3, 5] (.c (.e (some 10) [] .mkmap) (.c (.q 5 [] (.mv (.t 10))) .nil))) t85_14)
def t85_15 := b85_15
theorem u85_15 : vcK P t85_15 k e w = vcK P b85_15 k e w := rfl
abbrev b85_0 : X := (.seq (.reg [2, 3] (.c (.e (some 2) [] (.box 25 (.t 0))) (.c (.e (some 3) [] (.box 25 (.t 1))) (.c (.q 4 [] (.mv (.c (.map none)))) .nil)))) t85_15)
def x_ifalseSet := b85_0
theorem u85_0 : vcK P x_ifalseSet k e w = vcK P b85_0 k e w := rfl
def r_ifalseSet : List XO := [(.mv (.t 4))]
theorem c_ifalseSet : convF Tryz.prog [56, 58, 59, 60, 61, 62, 72, 73, 77, 97, 98, 109, 110, 111, 112, 115, 128, 136] Tryz.f85 [([2, 3], []), ([2, 3, 5], []), ([3, 5, 15, 16, 17], []), ([17], [3, 5, 15, 16]), ([3, 5, 15, 16, 17, 18], []), ([3, 5, 7, 15, 16, 17], []), ([3, 5, 7, 15, 16, 17, 25, 26, 27], []), ([27], [3, 5, 7, 15, 16, 17, 25, 26]), ([3, 5, 7, 15, 16, 17, 25, 26, 27, 28], []), ([3, 5, 7, 9, 15, 16, 17, 25, 26, 27], []), ([3, 5, 7, 15, 16, 17, 25, 26, 27], []), ([3, 5, 7, 15, 16, 17, 25, 26, 27], []), ([3, 5, 15, 16, 17], []), ([4], [])] = some (x_ifalseSet, r_ifalseSet) := by kernel_rfl
def us_ifalseSet :=  (aI (aI (aI (aI @u85_0 @u85_1) (aI @u85_2 @u85_3)) (aI (aI @u85_4 @u85_5) (aI @u85_6 @u85_7))) (aI (aI (aI @u85_8 @u85_9) (aI @u85_10 @u85_11)) (aI (aI @u85_12 @u85_13) (aI @u85_14 @u85_15))))
abbrev b86_1 : X := (.seq (.drw [2] (.c (.q 3 [] (.lda 3 (.t 1))) (.c (.q 4 [] (.fa 1 (.t 1))) (.c (.q 5 [] (.ld (.t 4))) (.c (.e (some 6) [] (.call false 131 [(.t 5)])) (.c (.e (some 7) [] (.call false 95 [(.t 3), (.t 6)])) (.c (.e (some 8) [] (.call false 133 [(.t 7)])) (.c (.q 2 [] (.mv (.t 8))) .nil)))))))) .ret)
def t86_1 := b86_1
theorem u86_1 : vcK P t86_1 k e w = vcK P b86_1 k e w := rfl
abbrev b86_0 : X := (.seq (.reg [1] (.c (.e (some 1) [] (.box 25 (.t 0))) (.c (.q 2 [] (.mv (.c (.bool false)))) .nil))) t86_1)
def x_ileadTrue := b86_0
theorem u86_0 : vcK P x_ileadTrue k e w = vcK P b86_0 k e w := rfl
def r_ileadTrue : List XO := [(.mv (.t 2))]
theorem c_ileadTrue : convF Tryz.prog [56, 58, 59, 60, 61, 62, 72, 73, 77, 97, 98, 109, 110, 111, 112, 115, 128, 136] Tryz.f86 [([1], []), ([2], [])] = some (x_ileadTrue, r_ileadTrue) := by kernel_rfl
def us_ileadTrue :=  (aI @u86_0 @u86_1)
end
theorem false_snoc {A B : List Bs} {i : Nat} (h : i < A.length) (x : Bs) : x ∈ falseL (A.take (i + 1)) B ↔ x ∈ falseL (A.take i) B ∨ ∃ s ∈ B, x = timesL (A.getD i []) (turnL s) := by
  rw [take_snocB h, falseL_mem, falseL_mem]
  constructor
  · rintro ⟨r, hr, s, hs, e⟩
    rcases List.mem_append.1 hr with hr | hr
    · exact .inl ⟨r, hr, s, hs, e⟩
    · rw [List.mem_singleton.1 hr] at e; exact .inr ⟨s, hs, e⟩
  · rintro (⟨r, hr, s, hs, e⟩ | ⟨s, hs, e⟩)
    · exact ⟨r, List.mem_append.2 (.inl hr), s, hs, e⟩
    · exact ⟨_, List.mem_append.2 (.inr (List.mem_singleton.2 rfl)), s, hs, e⟩
theorem ileadTrue_ok (nm : Bs) (st : Nat) (v : Value) (cs : List Bs) (hm : IsMethod nm st cs) (w : World) (h : Sq fS 1 w v cs) : Fn 86 [mV nm st v] w (fun r _ => r = .bool (decide (leadR st cs).Nodup)) := by
  have h38 : 3 ≤ st ∧ st ≤ 8 := by have := hm.2.1; omega
  have hcl := hm.2.2.1
  have hr0 : IsRow (roundsL st) := roundsL_row st h38
  (refine callsV_of mix Tryz.func86 c_ileadTrue ?_; simp only [↓vsd, vsn, gW, qd, qv, ev, pick, argE, zipE, ne_eq, eq_self, forall_const, implies_true, if_true, if_false, reduceIte, reduceCtorEq, Nat.reduceEqDiff, Nat.reduceAdd, Nat.reduceLT, ↓us_ileadTrue, r_ileadTrue])
  refine m_al ?_
  rintro b1 w1 hb1 hblk1 hx1 hs1
  have h1 : Blk w1 b1 (fM nm st v) 25 := hblk1
  simp only [↓vsd, vsn, gW, qd, qv, ev, pick, argE, zipE, ne_eq, eq_self, forall_const, implies_true, if_true, if_false, reduceIte, reduceCtorEq, Nat.reduceEqDiff, Nat.reduceAdd, Nat.reduceLT, ↓us_ileadTrue, r_ileadTrue, h1.facts, fMg]
  refine m_call (irounds_ok st (by omega) _) ?_
  rintro _ w4 hx4 rfl
  have hx4 : Ext w1 w4 := by first | exact hx4 | exact ud hx4 | exact ud (ud hx4)
  simp only [↓vsd, vsn, gW, qd, qv, ev, pick, argE, zipE, ne_eq, eq_self, forall_const, implies_true, if_true, if_false, reduceIte, reduceCtorEq, Nat.reduceEqDiff, Nat.reduceAdd, Nat.reduceLT, ↓us_ileadTrue, r_ileadTrue]
  refine m_call (ileadRows_ok nm st v cs (roundsL st) hm hr0 _ (by first | exact h.ext (hx1.trans hx4) | exact (h.ext (hx1.trans hx4)).ext (dr (Ext.refl _)))) ?_
  rintro x w5 hx5 ho5
  have hx5 : Ext w4 w5 := by first | exact hx5 | exact ud hx5 | exact ud (ud hx5)
  have hq5 : Sq fS 1 w5 x (leadR st cs) := ho5.sq
  simp only [↓vsd, vsn, gW, qd, qv, ev, pick, argE, zipE, ne_eq, eq_self, forall_const, implies_true, if_true, if_false, reduceIte, reduceCtorEq, Nat.reduceEqDiff, Nat.reduceAdd, Nat.reduceLT, ↓us_ileadTrue, r_ileadTrue]
  refine m_call (iisTrue_ok x (leadR st cs) (by rw [leadR_len]; omega) _ (by first | exact hq5 | exact hq5.ext (dr (Ext.refl _)))) ?_
  rintro _ w6 hx6 rfl
  have hx6 : Ext w5 w6 := by first | exact hx6 | exact ud hx6 | exact ud (ud hx6)
  simp only [↓vsd, vsn, gW, qd, qv, ev, pick, argE, zipE, ne_eq, eq_self, forall_const, implies_true, if_true, if_false, reduceIte, reduceCtorEq, Nat.reduceEqDiff, Nat.reduceAdd, Nat.reduceLT, ↓us_ileadTrue, r_ileadTrue]
  exact ((hx1.trans hx4).trans hx5).trans hx6
theorem sl1HasS_okz (v : Value) (l : List Bs) (x : Bs) (hl : l.length ≤ 1000000000) (w : World) (h : Sq fS 1 w v l) : Fn 107 [v, S x] w (fun r _ => r = .bool (decide (x ∈ l))) := by
  (refine callsV_of mix Tryz.func107 c_sl1HasS ?_; simp only [↓vsd, vsn, gW, qd, qv, ev, pick, argE, zipE, ne_eq, eq_self, forall_const, implies_true, if_true, if_false, reduceIte, reduceCtorEq, Nat.reduceEqDiff, Nat.reduceAdd, Nat.reduceLT, ↓us_sl1HasS, r_sl1HasS])
  simp only [↓vsd, vsn, gW, qd, qv, ev, pick, argE, zipE, ne_eq, eq_self, forall_const, implies_true, if_true, if_false, reduceIte, reduceCtorEq, Nat.reduceEqDiff, Nat.reduceAdd, Nat.reduceLT, ↓us_sl1HasS, r_sl1HasS, h.facts]
  refine m_upto l.length (fun i vs w' => vs = [.int .i64 i] ∧ x ∉ l.take i ∧ Ext w w') ⟨rfl, by simp, Ext.refl _⟩ ?_
  rintro i vs w1 hi ⟨rfl, hno, hx1⟩
  have hq1 := h.ext hx1
  by_cases hlt : i < l.length
  · have hltI : (i : Int) < l.length := by omega
    have hltJ : ¬ (l.length : Int) ≤ i := by omega
    have a1 := hq1.at1 [] hlt
    have hsn := take_snocB hlt
    have hm := getD_mem [] hlt
    generalize l.getD i [] = y at *
    simp only [↓vsd, vsn, gW, qd, qv, ev, pick, argE, zipE, ne_eq, eq_self, forall_const, implies_true, if_true, if_false, reduceIte, reduceCtorEq, Nat.reduceEqDiff, Nat.reduceAdd, Nat.reduceLT, ↓us_sl1HasS, r_sl1HasS, hltI, hltJ, hq1.facts, a1]
    refine ⟨by omega, fun he => ⟨hx1, (decide_eq_true (by rw [← he]; exact hm)).symm⟩, fun hne => ⟨inR_i64 (by omega), UpTo.next hlt ⟨rfl, fun hin => ?_, by first | exact hx1 | exact dr hx1⟩⟩⟩
    rw [hsn] at hin
    rcases List.mem_append.1 hin with h1 | h1
    · exact hno h1
    · exact hne (List.mem_singleton.1 h1).symm
  · obtain rfl : i = l.length := by omega
    have hltI : ¬ (l.length : Int) < l.length := by omega
    rw [List.take_length] at hno
    simp only [↓vsd, vsn, gW, qd, qv, ev, pick, argE, zipE, ne_eq, eq_self, forall_const, implies_true, if_true, if_false, reduceIte, reduceCtorEq, Nat.reduceEqDiff, Nat.reduceAdd, Nat.reduceLT, ↓us_sl1HasS, r_sl1HasS, hltI]
    exact ⟨hx1, (decide_eq_false hno).symm⟩
/-- May the clashes of these heads be asked? -/
def ClOk (nm : Bs) (st : Int) (cs l : List Bs) : Prop := IsMethod nm st cs ∧ (1 ≤ l.length ∧ l.length ≤ 100) ∧ IsRows l ∧ ((l.getD 0 []).length : Int) = st
instance (nm : Bs) (st : Int) (cs l : List Bs) : Decidable (ClOk nm st cs l) := by unfold ClOk IsRows; infer_instance
theorem ClOk.rows {nm : Bs} {st : Nat} {cs l : List Bs} (h : ClOk nm st cs l) : ∀ r ∈ l, IsRow r ∧ r.length = st := fun r hr => ⟨(h.2.2.1.1 r hr).1, by have := (h.2.2.1.1 r hr).2; have := h.2.2.2; omega⟩
end Go.Proofs.YthopbkemkfjebaaGreat
