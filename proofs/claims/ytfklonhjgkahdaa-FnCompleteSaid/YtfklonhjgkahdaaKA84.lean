/-
  Truth by lead heads: false lead heads and clashes of both sides.
  Conditions: none.
-/
import Derived.Test.YtfklonhjgkahdaaKA35
import Derived.Test.YtfklonhjgkahdaaKA73
import Derived.Test.YtfklonhjgkahdaaKD3
import Derived.Test.YtfklonhjgkahdaaKPx
set_option linter.unusedSimpArgs false
set_option linter.unusedVariables false
set_option linter.defProp false
namespace Go.Proofs.Ytfklonhjgkahdaa
open Go Go.RowKit
section
variable (P : Program) (k : KT) (e : Env) (w : World)
abbrev b97_1 : X := (.reg [3, 5, 7, 15, 16, 17, 25, 26, 27] (.c (.q 31 [] (.mv (.t 5))) (.c (.q 32 [] (.mv (.t 7))) (.c (.q 33 [] (.mv (.t 9))) (.c (.e (some 34) [] (.call false 109 [(.t 33)])) (.c (.e (some 35) [] (.call false 90 [(.t 32), (.t 34)])) (.c (.e none [] (.mup false .string (.t 31) (.t 35) (.c (.bool true)))) .nil)))))))
def t97_1 := b97_1
theorem u97_1 : vcK P t97_1 k e w = vcK P b97_1 k e w := rfl
abbrev b97_2 : X := (.reg [3, 5, 7, 15, 16, 17, 25, 26, 27] (.c (.q 36 [] (.bin .add (.t 27) (.c (.int .i64 1)))) (.c (.q 27 [] (.mv (.t 36))) .nil)))
def t97_2 := b97_2
theorem u97_2 : vcK P t97_2 k e w = vcK P b97_2 k e w := rfl
abbrev b97_3 : X := (.seq (.blk 3 (.seq (.reg [3, 5, 7, 9, 15, 16, 17, 25, 26, 27] (.c (.q 29 [] (.ia 1 (.t 25) (.t 27))) (.c (.q 30 [] (.ld (.t 29))) (.c (.q 9 [] (.mv (.t 30))) .nil)))) t97_1)) t97_2)
def t97_3 := b97_3
theorem u97_3 : vcK P t97_3 k e w = vcK P b97_3 k e w := rfl
abbrev b97_4 : X := (.seq (.cond (.t 28) .skip (.exit 2)) t97_3)
def t97_4 := b97_4
theorem u97_4 : vcK P t97_4 k e w = vcK P b97_4 k e w := rfl
abbrev b97_5 : X := (.seq (.reg [3, 5, 7, 15, 16, 17, 25, 26, 27, 28] (.c (.q 28 [] (.bin .lss (.t 27) (.t 26))) .nil)) t97_4)
def t97_5 := b97_5
theorem u97_5 : vcK P t97_5 k e w = vcK P b97_5 k e w := rfl
abbrev b97_6 : X := (.blk 2 (.loop [27] [3, 5, 7, 15, 16, 17, 25, 26] t97_5))
def t97_6 := b97_6
theorem u97_6 : vcK P t97_6 k e w = vcK P b97_6 k e w := rfl
abbrev b97_7 : X := (.seq (.drw [3, 5, 7, 15, 16, 17, 25, 26, 27] (.c (.q 21 [] (.lda 3 (.t 3))) (.c (.q 22 [] (.fa 1 (.t 3))) (.c (.q 23 [] (.ld (.t 22))) (.c (.q 27 [] (.mv (.c (.int .i64 0)))) (.c (.e (some 24) [] (.call false 44 [(.t 23)])) (.c (.e (some 25) [] (.call false 91 [(.t 21), (.t 24)])) (.c (.q 26 [] (.lens (.t 25))) .nil)))))))) t97_6)
def t97_7 := b97_7
theorem u97_7 : vcK P t97_7 k e w = vcK P b97_7 k e w := rfl
abbrev b97_8 : X := (.reg [3, 5, 15, 16, 17] (.c (.q 37 [] (.bin .add (.t 17) (.c (.int .i64 1)))) (.c (.q 17 [] (.mv (.t 37))) .nil)))
def t97_8 := b97_8
theorem u97_8 : vcK P t97_8 k e w = vcK P b97_8 k e w := rfl
abbrev b97_9 : X := (.seq (.blk 1 (.seq (.reg [3, 5, 7, 15, 16, 17] (.c (.q 19 [] (.ia 1 (.t 15) (.t 17))) (.c (.q 20 [] (.ld (.t 19))) (.c (.q 7 [] (.mv (.t 20))) .nil)))) t97_7)) t97_8)
def t97_9 := b97_9
theorem u97_9 : vcK P t97_9 k e w = vcK P b97_9 k e w := rfl
abbrev b97_10 : X := (.seq (.cond (.t 18) .skip (.exit 0)) t97_9)
def t97_10 := b97_10
theorem u97_10 : vcK P t97_10 k e w = vcK P b97_10 k e w := rfl
abbrev b97_11 : X := (.seq (.reg [3, 5, 15, 16, 17, 18] (.c (.q 18 [] (.bin .lss (.t 17) (.t 16))) .nil)) t97_10)
def t97_11 := b97_11
theorem u97_11 : vcK P t97_11 k e w = vcK P b97_11 k e w := rfl
abbrev b97_12 : X := (.blk 0 (.loop [17] [3, 5, 15, 16] t97_11))
def t97_12 := b97_12
theorem u97_12 : vcK P t97_12 k e w = vcK P b97_12 k e w := rfl
abbrev b97_13 : X := (.seq (.reg [4] (.c (.q 38 [] (.mv (.t 5))) (.c (.q 4 [] (.mv (.t 38))) .nil))) .ret)
def t97_13 := b97_13
theorem u97_13 : vcK P t97_13 k e w = vcK P b97_13 k e w := rfl
abbrev b97_14 : X := (.seq (.seq (.drw [3, 5, 15, 16, 17] (.c (.q 11 [] (.lda 3 (.t 2))) (.c (.q 12 [] (.fa 1 (.t 2))) (.c (.q 13 [] (.ld (.t 12))) (.c (.q 17 [] (.mv (.c (.int .i64 0)))) (.c (.e (some 14) [] (.call false 44 [(.t 13)])) (.c (.e (some 15) [] (.call false 91 [(.t 11), (.t 14)])) (.c (.q 16 [] (.lens (.t 15))) .nil)))))))) t97_12) t97_13)
def t97_14 := b97_14
theorem u97_14 : vcK P t97_14 k e w = vcK P b97_14 k e w := rfl
abbrev b97_15 : X := (.seq (.reg [2, 3, 5] (.c (.e (some 10) [] .mkmap) (.c (.q 5 [] (.mv (.t 10))) .nil))) t97_14)
def t97_15 := b97_15
theorem u97_15 : vcK P t97_15 k e w = vcK P b97_15 k e w := rfl
abbrev b97_0 : X := (.seq (.reg [2, 3] (.c (.e (some 2) [] (.box 44 (.t 0))) (.c (.e (some 3) [] (.box 44 (.t 1))) (.c (.q 4 [] (.mv (.c (.map none)))) .nil)))) t97_15)
def x_ifalseSet := b97_0
theorem u97_0 : vcK P x_ifalseSet k e w = vcK P b97_0 k e w := rfl
def r_ifalseSet : List XO := [(.mv (.t 4))]
theorem c_ifalseSet : convF Try.prog [38, 39, 41, 42, 49, 54, 55, 57, 58, 59, 73, 79, 81, 84, 87, 139] Try.f97 [([2, 3], []), ([2, 3, 5], []), ([3, 5, 15, 16, 17], []), ([17], [3, 5, 15, 16]), ([3, 5, 15, 16, 17, 18], []), ([3, 5, 7, 15, 16, 17], []), ([3, 5, 7, 15, 16, 17, 25, 26, 27], []), ([27], [3, 5, 7, 15, 16, 17, 25, 26]), ([3, 5, 7, 15, 16, 17, 25, 26, 27, 28], []), ([3, 5, 7, 9, 15, 16, 17, 25, 26, 27], []), ([3, 5, 7, 15, 16, 17, 25, 26, 27], []), ([3, 5, 7, 15, 16, 17, 25, 26, 27], []), ([3, 5, 15, 16, 17], []), ([4], [])] = some (x_ifalseSet, r_ifalseSet) := by kernel_rfl
def us_ifalseSet :=  (aI (aI (aI (aI @u97_0 @u97_1) (aI @u97_2 @u97_3)) (aI (aI @u97_4 @u97_5) (aI @u97_6 @u97_7))) (aI (aI (aI @u97_8 @u97_9) (aI @u97_10 @u97_11)) (aI (aI @u97_12 @u97_13) (aI @u97_14 @u97_15))))
abbrev b96_1 : X := (.seq (.drw [2] (.c (.q 3 [] (.lda 3 (.t 1))) (.c (.q 4 [] (.fa 1 (.t 1))) (.c (.q 5 [] (.ld (.t 4))) (.c (.e (some 6) [] (.call false 44 [(.t 5)])) (.c (.e (some 7) [] (.call false 91 [(.t 3), (.t 6)])) (.c (.e (some 8) [] (.call false 63 [(.t 7)])) (.c (.q 2 [] (.mv (.t 8))) .nil)))))))) .ret)
def t96_1 := b96_1
theorem u96_1 : vcK P t96_1 k e w = vcK P b96_1 k e w := rfl
abbrev b96_0 : X := (.seq (.reg [1] (.c (.e (some 1) [] (.box 44 (.t 0))) (.c (.q 2 [] (.mv (.c (.bool false)))) .nil))) t96_1)
def x_ileadTrue := b96_0
theorem u96_0 : vcK P x_ileadTrue k e w = vcK P b96_0 k e w := rfl
def r_ileadTrue : List XO := [(.mv (.t 2))]
theorem c_ileadTrue : convF Try.prog [38, 39, 41, 42, 49, 54, 55, 57, 58, 59, 73, 79, 81, 84, 87, 139] Try.f96 [([1], []), ([2], [])] = some (x_ileadTrue, r_ileadTrue) := by kernel_rfl
def us_ileadTrue :=  (aI @u96_0 @u96_1)
end
theorem false_snoc {A B : List Bs} {i : Nat} (h : i < A.length) (x : Bs) : x ∈ falseL (A.take (i + 1)) B ↔ x ∈ falseL (A.take i) B ∨ ∃ s ∈ B, x = timesL (A.getD i []) (turnL s) := by
  rw [take_snocB h, falseL_mem, falseL_mem]
  constructor
  · rintro ⟨r, hr, s, hs, e⟩
    rcases List.mem_append.1 hr with hr | hr
    · exact .inl ⟨r, hr, s, hs, e⟩
    · rw [List.mem_singleton.1 hr] at e; exact .inr ⟨s, hs, e⟩
  · rintro (⟨r, hr, s, hs, e⟩ | ⟨s, hs, e⟩)
    · exact ⟨r, List.mem_append.2 (.inl hr), s, hs, e⟩
    · exact ⟨_, List.mem_append.2 (.inr (List.mem_singleton.2 rfl)), s, hs, e⟩
theorem ifalseSet_ok (nm : Bs) (st : Nat) (v : Value) (cs : List Bs) (hm : IsMethod nm st cs) (w : World) (h : Sq fS 1 w v cs) : Fn 97 [mV nm st v, mV nm st v] w (fun r w' => ∃ m L, r = .map (some m) ∧ SetAt w' m L ∧ w.heap.size ≤ m ∧ ∀ x, x ∈ L ↔ x ∈ falseL (leadR st cs) (leadR st cs)) := by
  have h38 : 3 ≤ st ∧ st ≤ 8 := by have := hm.2.1; omega
  have hcl := hm.2.2.1
  have hR := leadR_rows h38 cs
  have hRl := leadR_len st cs
  have hr0 : IsRow (roundsL st) := roundsL_row st h38
  (refine callsV_of mix Try.func97 c_ifalseSet ?_; simp only [↓vsd, vsn, gW, qd, qv, ev, pick, argE, zipE, ne_eq, eq_self, forall_const, implies_true, if_true, if_false, reduceIte, reduceCtorEq, Nat.reduceEqDiff, Nat.reduceAdd, Nat.reduceLT, ↓us_ifalseSet, r_ifalseSet])
  refine m_al ?_
  rintro b1 w1 hb1 hblk1 hx1 hs1
  have h1 : Blk w1 b1 (fM nm st v) 44 := hblk1
  simp only [↓vsd, vsn, gW, qd, qv, ev, pick, argE, zipE, ne_eq, eq_self, forall_const, implies_true, if_true, if_false, reduceIte, reduceCtorEq, Nat.reduceEqDiff, Nat.reduceAdd, Nat.reduceLT, ↓us_ifalseSet, r_ifalseSet]
  refine m_al ?_
  rintro b2 w2 hb2 hblk2 hx2 hs2
  have h2 : Blk w2 b2 (fM nm st v) 44 := hblk2
  have h12 := h1.ext hx2
  have hx02 := hx1.trans hx2
  simp only [↓vsd, vsn, gW, qd, qv, ev, pick, argE, zipE, ne_eq, eq_self, forall_const, implies_true, if_true, if_false, reduceIte, reduceCtorEq, Nat.reduceEqDiff, Nat.reduceAdd, Nat.reduceLT, ↓us_ifalseSet, r_ifalseSet]
  refine m_mkset ?_
  rintro m w3 hmb hm3 hx3 hs3
  have hx03 := hx02.trans hx3
  have h13 := h12.ext hx3
  have h23 := h2.ext hx3
  simp only [↓vsd, vsn, gW, qd, qv, ev, pick, argE, zipE, ne_eq, eq_self, forall_const, implies_true, if_true, if_false, reduceIte, reduceCtorEq, Nat.reduceEqDiff, Nat.reduceAdd, Nat.reduceLT, ↓us_ifalseSet, r_ifalseSet, h13.facts, h23.facts, fMg]
  refine m_call (irounds_ok st (by omega) _) ?_
  rintro _ w4 hx4 rfl
  have hx4 : Ext w3 w4 := by first | exact hx4 | exact ud hx4 | exact ud (ud hx4)
  simp only [↓vsd, vsn, gW, qd, qv, ev, pick, argE, zipE, ne_eq, eq_self, forall_const, implies_true, if_true, if_false, reduceIte, reduceCtorEq, Nat.reduceEqDiff, Nat.reduceAdd, Nat.reduceLT, ↓us_ifalseSet, r_ifalseSet]
  refine m_call (ileadRows_ok nm st v cs (roundsL st) hm hr0 _ (by first | exact h.ext (hx03.trans hx4) | exact (h.ext (hx03.trans hx4)).ext (dr (Ext.refl _)))) ?_
  rintro x w5 hx5 ho5
  have hx5 : Ext w4 w5 := by first | exact hx5 | exact ud hx5 | exact ud (ud hx5)
  have hx35 := hx4.trans hx5
  have hx05 := hx03.trans hx35
  have hm5 := hm3.ext hx35
  have h25 := h23.ext hx35
  have hq5 : Sq fS 1 w5 x (leadR st cs) := ho5.sq
  have ho5 : Own fS 1 9 w4.heap.size w5 x (leadR st cs) := by first | exact ho5 | exact ho5.mono (by show w4.heap.size ≤ _; exact Nat.le_refl _)
  have hmlt := hm3.lt
  simp only [↓vsd, vsn, gW, qd, qv, ev, pick, argE, zipE, ne_eq, eq_self, forall_const, implies_true, if_true, if_false, reduceIte, reduceCtorEq, Nat.reduceEqDiff, Nat.reduceAdd, Nat.reduceLT, ↓us_ifalseSet, r_ifalseSet, hq5.facts]
  refine m_upto (leadR st cs).length (fun i vs w' => vs = [.int .i64 i] ∧ (∃ L, SetAt w' m L ∧ ∀ x, x ∈ L ↔ x ∈ falseL ((leadR st cs).take i) (leadR st cs)) ∧ Ext w2 w' ∧ Own fS 1 9 w4.heap.size w' x (leadR st cs)) ⟨rfl, ⟨[], hm5, fun x => by simp [falseL]⟩, hx3.trans hx35, ho5⟩ ?_
  rintro i vs w6 hi ⟨rfl, ⟨L, hm6, hL⟩, hx6, ho6⟩
  have hq6 := ho6.sq
  by_cases hli : i < (leadR st cs).length
  · have hliI : (i : Int) < (leadR st cs).length := by omega
    have hliJ : ¬ ((leadR st cs).length : Int) ≤ i := by omega
    have a6 := hq6.at1 [] hli
    have h26 := h2.ext hx6
    have hri := hR _ (getD_mem [] hli)
    have hfs := false_snoc (B := leadR st cs) hli
    generalize (leadR st cs).getD i [] = r at *
    simp only [↓vsd, vsn, gW, qd, qv, ev, pick, argE, zipE, ne_eq, eq_self, forall_const, implies_true, if_true, if_false, reduceIte, reduceCtorEq, Nat.reduceEqDiff, Nat.reduceAdd, Nat.reduceLT, ↓us_ifalseSet, r_ifalseSet, hliI, hq6.facts, a6, h26.facts, fMg]
    refine ⟨by omega, m_call (irounds_ok st (by omega) _) ?_⟩
    rintro _ w7 hx7 rfl
    have hx7 : Ext w6 w7 := by first | exact hx7 | exact ud hx7 | exact ud (ud hx7)
    simp only [↓vsd, vsn, gW, qd, qv, ev, pick, argE, zipE, ne_eq, eq_self, forall_const, implies_true, if_true, if_false, reduceIte, reduceCtorEq, Nat.reduceEqDiff, Nat.reduceAdd, Nat.reduceLT, ↓us_ifalseSet, r_ifalseSet]
    refine m_call (ileadRows_ok nm st v cs (roundsL st) hm hr0 _ (by first | exact h.ext ((hx02.trans hx6).trans hx7) | exact (h.ext ((hx02.trans hx6).trans hx7)).ext (dr (Ext.refl _)))) ?_
    rintro y w8 hx8 ho8
    have hx8 : Ext w7 w8 := by first | exact hx8 | exact ud hx8 | exact ud (ud hx8)
    have hx68 := hx7.trans hx8
    have hm8 := hm6.ext hx68
    have ho68 := ho6.ext hx68
    have ho8 : Own fS 1 9 w7.heap.size w8 y (leadR st cs) := by first | exact ho8 | exact ho8.mono (by show w7.heap.size ≤ _; exact Nat.le_refl _)
    have hx28 := hx6.trans hx68
    have hq8 := ho8.sq
    simp only [↓vsd, vsn, gW, qd, qv, ev, pick, argE, zipE, ne_eq, eq_self, forall_const, implies_true, if_true, if_false, reduceIte, reduceCtorEq, Nat.reduceEqDiff, Nat.reduceAdd, Nat.reduceLT, ↓us_ifalseSet, r_ifalseSet, hq8.facts]
    refine m_upto (leadR st cs).length (fun j vs w' => vs = [.int .i64 j] ∧ (∃ L, SetAt w' m L ∧ ∀ x, x ∈ L ↔ x ∈ falseL ((leadR st cs).take i) (leadR st cs) ∨ ∃ s ∈ (leadR st cs).take j, x = timesL r (turnL s)) ∧ Ext w2 w' ∧ Own fS 1 9 w4.heap.size w' x (leadR st cs) ∧ Own fS 1 9 w7.heap.size w' y (leadR st cs)) ⟨rfl, ⟨L, hm8, fun x => by simp [hL]⟩, hx28, ho68, ho8⟩ ?_
    rintro j vs w9 hj ⟨rfl, ⟨L9, hm9, hL9⟩, hx9, ho9, hy9⟩
    have hq9 := hy9.sq
    by_cases hlj : j < (leadR st cs).length
    · have hljI : (j : Int) < (leadR st cs).length := by omega
      have hljJ : ¬ ((leadR st cs).length : Int) ≤ j := by omega
      have a9 := hq9.at1 [] hlj
      have hrj := hR _ (getD_mem [] hlj)
      have htk := take_snocB hlj
      generalize (leadR st cs).getD j [] = s at *
      simp only [↓vsd, vsn, gW, qd, qv, ev, pick, argE, zipE, ne_eq, eq_self, forall_const, implies_true, if_true, if_false, reduceIte, reduceCtorEq, Nat.reduceEqDiff, Nat.reduceAdd, Nat.reduceLT, ↓us_ifalseSet, r_ifalseSet, hljI, hq9.facts, a9]
      refine ⟨by omega, m_call (iturned_ok s hrj.1 _) ?_⟩
      rintro _ w10 hx10 rfl
      have hx10 : Ext w9 w10 := by first | exact hx10 | exact ud hx10 | exact ud (ud hx10)
      simp only [↓vsd, vsn, gW, qd, qv, ev, pick, argE, zipE, ne_eq, eq_self, forall_const, implies_true, if_true, if_false, reduceIte, reduceCtorEq, Nat.reduceEqDiff, Nat.reduceAdd, Nat.reduceLT, ↓us_ifalseSet, r_ifalseSet]
      refine m_call (itimes_ok r (turnL s) (turnL_row hrj.1) (by rw [turnL_len, hri.2, hrj.2]) _) ?_
      rintro _ w11 hx11 rfl
      have hx11 : Ext w10 w11 := by first | exact hx11 | exact ud hx11 | exact ud (ud hx11)
      have hx911 := hx10.trans hx11
      have hm11 := hm9.ext hx911
      have ho11 := ho9.ext hx911
      have hy11 := hy9.ext hx911
      simp only [↓vsd, vsn, gW, qd, qv, ev, pick, argE, zipE, ne_eq, eq_self, forall_const, implies_true, if_true, if_false, reduceIte, reduceCtorEq, Nat.reduceEqDiff, Nat.reduceAdd, Nat.reduceLT, ↓us_ifalseSet, r_ifalseSet]
      refine m_put hm11 ?_
      rintro w12 hm12 hu12
      have hx12 : Ext w2 w12 := hu12.below (hx9.trans hx911) (by omega)
      simp only [↓vsd, vsn, gW, qd, qv, ev, pick, argE, zipE, ne_eq, eq_self, forall_const, implies_true, if_true, if_false, reduceIte, reduceCtorEq, Nat.reduceEqDiff, Nat.reduceAdd, Nat.reduceLT, ↓us_ifalseSet, r_ifalseSet]
      refine ⟨inR_i64 (by omega), UpTo.next hlj ⟨rfl, ⟨_, hm12, fun z => ?_⟩, hx12, ho11.upd hu12 (hm11.apart ho11), hy11.upd hu12 (hm11.apart hy11)⟩⟩
      rw [put1_mem, hL9, htk]
      constructor
      · rintro ((h1 | ⟨q, h1, e⟩) | e)
        · exact .inl h1
        · exact .inr ⟨q, List.mem_append.2 (.inl h1), e⟩
        · exact .inr ⟨s, List.mem_append.2 (.inr (List.mem_singleton.2 rfl)), e⟩
      · rintro (h1 | ⟨q, h1, e⟩)
        · exact .inl (.inl h1)
        · rcases List.mem_append.1 h1 with h1 | h1
          · exact .inl (.inr ⟨q, h1, e⟩)
          · rw [List.mem_singleton.1 h1] at e; exact .inr e
    · obtain rfl : j = (leadR st cs).length := by omega
      have hljI : ¬ (((leadR st cs).length : Nat) : Int) < (leadR st cs).length := by omega
      rw [List.take_length] at hL9
      simp only [↓vsd, vsn, gW, qd, qv, ev, pick, argE, zipE, ne_eq, eq_self, forall_const, implies_true, if_true, if_false, reduceIte, reduceCtorEq, Nat.reduceEqDiff, Nat.reduceAdd, Nat.reduceLT, ↓us_ifalseSet, r_ifalseSet, hljI]
      exact ⟨inR_i64 (by omega), UpTo.next hli ⟨rfl, ⟨L9, hm9, fun z => by rw [hL9, hfs]⟩, hx9, ho9⟩⟩
  · obtain rfl : i = (leadR st cs).length := by omega
    have hliI : ¬ (((leadR st cs).length : Nat) : Int) < (leadR st cs).length := by omega
    simp only [↓vsd, vsn, gW, qd, qv, ev, pick, argE, zipE, ne_eq, eq_self, forall_const, implies_true, if_true, if_false, reduceIte, reduceCtorEq, Nat.reduceEqDiff, Nat.reduceAdd, Nat.reduceLT, ↓us_ifalseSet, r_ifalseSet, hliI]
    rw [List.take_length] at hL
    exact ⟨hx02.trans hx6, m, L, rfl, hm6, by have := hx02.size; omega, hL⟩
theorem ileadTrue_ok (nm : Bs) (st : Nat) (v : Value) (cs : List Bs) (hm : IsMethod nm st cs) (w : World) (h : Sq fS 1 w v cs) : Fn 96 [mV nm st v] w (fun r _ => r = .bool (decide (leadR st cs).Nodup)) := by
  have h38 : 3 ≤ st ∧ st ≤ 8 := by have := hm.2.1; omega
  have hcl := hm.2.2.1
  have hr0 : IsRow (roundsL st) := roundsL_row st h38
  (refine callsV_of mix Try.func96 c_ileadTrue ?_; simp only [↓vsd, vsn, gW, qd, qv, ev, pick, argE, zipE, ne_eq, eq_self, forall_const, implies_true, if_true, if_false, reduceIte, reduceCtorEq, Nat.reduceEqDiff, Nat.reduceAdd, Nat.reduceLT, ↓us_ileadTrue, r_ileadTrue])
  refine m_al ?_
  rintro b1 w1 hb1 hblk1 hx1 hs1
  have h1 : Blk w1 b1 (fM nm st v) 44 := hblk1
  simp only [↓vsd, vsn, gW, qd, qv, ev, pick, argE, zipE, ne_eq, eq_self, forall_const, implies_true, if_true, if_false, reduceIte, reduceCtorEq, Nat.reduceEqDiff, Nat.reduceAdd, Nat.reduceLT, ↓us_ileadTrue, r_ileadTrue, h1.facts, fMg]
  refine m_call (irounds_ok st (by omega) _) ?_
  rintro _ w4 hx4 rfl
  have hx4 : Ext w1 w4 := by first | exact hx4 | exact ud hx4 | exact ud (ud hx4)
  simp only [↓vsd, vsn, gW, qd, qv, ev, pick, argE, zipE, ne_eq, eq_self, forall_const, implies_true, if_true, if_false, reduceIte, reduceCtorEq, Nat.reduceEqDiff, Nat.reduceAdd, Nat.reduceLT, ↓us_ileadTrue, r_ileadTrue]
  refine m_call (ileadRows_ok nm st v cs (roundsL st) hm hr0 _ (by first | exact h.ext (hx1.trans hx4) | exact (h.ext (hx1.trans hx4)).ext (dr (Ext.refl _)))) ?_
  rintro x w5 hx5 ho5
  have hx5 : Ext w4 w5 := by first | exact hx5 | exact ud hx5 | exact ud (ud hx5)
  have hq5 : Sq fS 1 w5 x (leadR st cs) := ho5.sq
  simp only [↓vsd, vsn, gW, qd, qv, ev, pick, argE, zipE, ne_eq, eq_self, forall_const, implies_true, if_true, if_false, reduceIte, reduceCtorEq, Nat.reduceEqDiff, Nat.reduceAdd, Nat.reduceLT, ↓us_ileadTrue, r_ileadTrue]
  refine m_call (iisTrue_ok x (leadR st cs) (by rw [leadR_len]; omega) _ (by first | exact hq5 | exact hq5.ext (dr (Ext.refl _)))) ?_
  rintro _ w6 hx6 rfl
  have hx6 : Ext w5 w6 := by first | exact hx6 | exact ud hx6 | exact ud (ud hx6)
  simp only [↓vsd, vsn, gW, qd, qv, ev, pick, argE, zipE, ne_eq, eq_self, forall_const, implies_true, if_true, if_false, reduceIte, reduceCtorEq, Nat.reduceEqDiff, Nat.reduceAdd, Nat.reduceLT, ↓us_ileadTrue, r_ileadTrue]
  exact ((hx1.trans hx4).trans hx5).trans hx6
/-- May the clashes of these heads be asked? -/
def ClOk (nm : Bs) (st : Int) (cs l : List Bs) : Prop := IsMethod nm st cs ∧ (1 ≤ l.length ∧ l.length ≤ 100) ∧ IsRows l ∧ ((l.getD 0 []).length : Int) = st
instance (nm : Bs) (st : Int) (cs l : List Bs) : Decidable (ClOk nm st cs l) := by unfold ClOk IsRows; infer_instance
theorem ClOk.rows {nm : Bs} {st : Nat} {cs l : List Bs} (h : ClOk nm st cs l) : ∀ r ∈ l, IsRow r ∧ r.length = st := fun r hr => ⟨(h.2.2.1.1 r hr).1, by have := (h.2.2.1.1 r hr).2; have := h.2.2.2; omega⟩
end Go.Proofs.Ytfklonhjgkahdaa
