/-
  Truth of splices by lead heads: false lead heads between two methods, of both sides.
  Conditions: none.
-/
import Derived.Test.YthopbkemkfjebaaGreatKA67
import Derived.Test.YthopbkemkfjebaaGreatKA84
set_option linter.unusedSimpArgs false
set_option linter.unusedVariables false
set_option linter.defProp false
namespace Go.Proofs.YthopbkemkfjebaaGreat
open Go Go.RowKit
theorem ifalseSet_okw (nm nm2 : Bs) (st : Nat) (v v2 : Value) (cs cs2 : List Bs) (hm : IsMethod nm st cs) (hm' : IsMethod nm2 st cs2) (w : World) (h : Sq fS 1 w v cs) (h' : Sq fS 1 w v2 cs2) : Fn 85 [mV nm st v, mV nm2 st v2] w (fun r w' => ∃ m L, r = .map (some m) ∧ SetAt w' m L ∧ w.heap.size ≤ m ∧ ∀ x, x ∈ L ↔ x ∈ falseL (leadR st cs) (leadR st cs2)) := by
  have h38 : 3 ≤ st ∧ st ≤ 8 := by have := hm.2.1; omega
  have hcl := hm.2.2.1
  have hcl2 := hm'.2.2.1
  have hR2 := leadR_rows h38 cs2
  have hRl2 := leadR_len st cs2
  have hR := leadR_rows h38 cs
  have hRl := leadR_len st cs
  have hr0 : IsRow (roundsL st) := roundsL_row st h38
  (refine callsV_of mix Tryz.func85 c_ifalseSet ?_; simp only [↓vsd, vsn, gW, qd, qv, ev, pick, argE, zipE, ne_eq, eq_self, forall_const, implies_true, if_true, if_false, reduceIte, reduceCtorEq, Nat.reduceEqDiff, Nat.reduceAdd, Nat.reduceLT, ↓us_ifalseSet, r_ifalseSet])
  refine m_al ?_
  rintro b1 w1 hb1 hblk1 hx1 hs1
  have h1 : Blk w1 b1 (fM nm st v) 25 := hblk1
  simp only [↓vsd, vsn, gW, qd, qv, ev, pick, argE, zipE, ne_eq, eq_self, forall_const, implies_true, if_true, if_false, reduceIte, reduceCtorEq, Nat.reduceEqDiff, Nat.reduceAdd, Nat.reduceLT, ↓us_ifalseSet, r_ifalseSet]
  refine m_al ?_
  rintro b2 w2 hb2 hblk2 hx2 hs2
  have h2 : Blk w2 b2 (fM nm2 st v2) 25 := hblk2
  have h12 := h1.ext hx2
  have hx02 := hx1.trans hx2
  simp only [↓vsd, vsn, gW, qd, qv, ev, pick, argE, zipE, ne_eq, eq_self, forall_const, implies_true, if_true, if_false, reduceIte, reduceCtorEq, Nat.reduceEqDiff, Nat.reduceAdd, Nat.reduceLT, ↓us_ifalseSet, r_ifalseSet]
  refine m_mkset ?_
  rintro m w3 hmb hm3 hx3 hs3
  have hx03 := hx02.trans hx3
  have h13 := h12.ext hx3
  have h23 := h2.ext hx3
  simp only [↓vsd, vsn, gW, qd, qv, ev, pick, argE, zipE, ne_eq, eq_self, forall_const, implies_true, if_true, if_false, reduceIte, reduceCtorEq, Nat.reduceEqDiff, Nat.reduceAdd, Nat.reduceLT, ↓us_ifalseSet, r_ifalseSet, h13.facts, h23.facts, fMg]
  refine m_call (irounds_ok st (by omega) _) ?_
  rintro _ w4 hx4 rfl
  have hx4 : Ext w3 w4 := by first | exact hx4 | exact ud hx4 | exact ud (ud hx4)
  simp only [↓vsd, vsn, gW, qd, qv, ev, pick, argE, zipE, ne_eq, eq_self, forall_const, implies_true, if_true, if_false, reduceIte, reduceCtorEq, Nat.reduceEqDiff, Nat.reduceAdd, Nat.reduceLT, ↓us_ifalseSet, r_ifalseSet]
  refine m_call (ileadRows_ok nm st v cs (roundsL st) hm hr0 _ (by first | exact h.ext (hx03.trans hx4) | exact (h.ext (hx03.trans hx4)).ext (dr (Ext.refl _)))) ?_
  rintro x w5 hx5 ho5
  have hx5 : Ext w4 w5 := by first | exact hx5 | exact ud hx5 | exact ud (ud hx5)
  have hx35 := hx4.trans hx5
  have hx05 := hx03.trans hx35
  have hm5 := hm3.ext hx35
  have h25 := h23.ext hx35
  have hq5 : Sq fS 1 w5 x (leadR st cs) := ho5.sq
  have ho5 : Own fS 1 9 w4.heap.size w5 x (leadR st cs) := by first | exact ho5 | exact ho5.mono (by show w4.heap.size ≤ _; exact Nat.le_refl _)
  have hmlt := hm3.lt
  simp only [↓vsd, vsn, gW, qd, qv, ev, pick, argE, zipE, ne_eq, eq_self, forall_const, implies_true, if_true, if_false, reduceIte, reduceCtorEq, Nat.reduceEqDiff, Nat.reduceAdd, Nat.reduceLT, ↓us_ifalseSet, r_ifalseSet, hq5.facts]
  refine m_upto (leadR st cs).length (fun i vs w' => vs = [.int .i64 i] ∧ (∃ L, SetAt w' m L ∧ ∀ x, x ∈ L ↔ x ∈ falseL ((leadR st cs).take i) (leadR st cs2)) ∧ Ext w2 w' ∧ Own fS 1 9 w4.heap.size w' x (leadR st cs)) ⟨rfl, ⟨[], hm5, fun x => by simp [falseL]⟩, hx3.trans hx35, ho5⟩ ?_
  rintro i vs w6 hi ⟨rfl, ⟨L, hm6, hL⟩, hx6, ho6⟩
  have hq6 := ho6.sq
  by_cases hli : i < (leadR st cs).length
  · have hliI : (i : Int) < (leadR st cs).length := by omega
    have hliJ : ¬ ((leadR st cs).length : Int) ≤ i := by omega
    have a6 := hq6.at1 [] hli
    have h26 := h2.ext hx6
    have hri := hR _ (getD_mem [] hli)
    have hfs := false_snoc (B := leadR st cs2) hli
    generalize (leadR st cs).getD i [] = r at *
    simp only [↓vsd, vsn, gW, qd, qv, ev, pick, argE, zipE, ne_eq, eq_self, forall_const, implies_true, if_true, if_false, reduceIte, reduceCtorEq, Nat.reduceEqDiff, Nat.reduceAdd, Nat.reduceLT, ↓us_ifalseSet, r_ifalseSet, hliI, hq6.facts, a6, h26.facts, fMg]
    refine ⟨by omega, m_call (irounds_ok st (by omega) _) ?_⟩
    rintro _ w7 hx7 rfl
    have hx7 : Ext w6 w7 := by first | exact hx7 | exact ud hx7 | exact ud (ud hx7)
    simp only [↓vsd, vsn, gW, qd, qv, ev, pick, argE, zipE, ne_eq, eq_self, forall_const, implies_true, if_true, if_false, reduceIte, reduceCtorEq, Nat.reduceEqDiff, Nat.reduceAdd, Nat.reduceLT, ↓us_ifalseSet, r_ifalseSet]
    refine m_call (ileadRows_ok nm2 st v2 cs2 (roundsL st) hm' hr0 _ (by first | exact h'.ext ((hx02.trans hx6).trans hx7) | exact (h'.ext ((hx02.trans hx6).trans hx7)).ext (dr (Ext.refl _)))) ?_
    rintro y w8 hx8 ho8
    have hx8 : Ext w7 w8 := by first | exact hx8 | exact ud hx8 | exact ud (ud hx8)
    have hx68 := hx7.trans hx8
    have hm8 := hm6.ext hx68
    have ho68 := ho6.ext hx68
    have ho8 : Own fS 1 9 w7.heap.size w8 y (leadR st cs2) := by first | exact ho8 | exact ho8.mono (by show w7.heap.size ≤ _; exact Nat.le_refl _)
    have hx28 := hx6.trans hx68
    have hq8 := ho8.sq
    simp only [↓vsd, vsn, gW, qd, qv, ev, pick, argE, zipE, ne_eq, eq_self, forall_const, implies_true, if_true, if_false, reduceIte, reduceCtorEq, Nat.reduceEqDiff, Nat.reduceAdd, Nat.reduceLT, ↓us_ifalseSet, r_ifalseSet, hq8.facts]
    refine m_upto (leadR st cs2).length (fun j vs w' => vs = [.int .i64 j] ∧ (∃ L, SetAt w' m L ∧ ∀ x, x ∈ L ↔ x ∈ falseL ((leadR st cs).take i) (leadR st cs2) ∨ ∃ s ∈ (leadR st cs2).take j, x = timesL r (turnL s)) ∧ Ext w2 w' ∧ Own fS 1 9 w4.heap.size w' x (leadR st cs) ∧ Own fS 1 9 w7.heap.size w' y (leadR st cs2)) ⟨rfl, ⟨L, hm8, fun x => by simp [hL]⟩, hx28, ho68, ho8⟩ ?_
    rintro j vs w9 hj ⟨rfl, ⟨L9, hm9, hL9⟩, hx9, ho9, hy9⟩
    have hq9 := hy9.sq
    by_cases hlj : j < (leadR st cs2).length
    · have hljI : (j : Int) < (leadR st cs2).length := by omega
      have hljJ : ¬ ((leadR st cs2).length : Int) ≤ j := by omega
      have a9 := hq9.at1 [] hlj
      have hrj := hR2 _ (getD_mem [] hlj)
      have htk := take_snocB hlj
      generalize (leadR st cs2).getD j [] = s at *
      simp only [↓vsd, vsn, gW, qd, qv, ev, pick, argE, zipE, ne_eq, eq_self, forall_const, implies_true, if_true, if_false, reduceIte, reduceCtorEq, Nat.reduceEqDiff, Nat.reduceAdd, Nat.reduceLT, ↓us_ifalseSet, r_ifalseSet, hljI, hq9.facts, a9]
      refine ⟨by omega, m_call (iturned_ok s hrj.1 _) ?_⟩
      rintro _ w10 hx10 rfl
      have hx10 : Ext w9 w10 := by first | exact hx10 | exact ud hx10 | exact ud (ud hx10)
      simp only [↓vsd, vsn, gW, qd, qv, ev, pick, argE, zipE, ne_eq, eq_self, forall_const, implies_true, if_true, if_false, reduceIte, reduceCtorEq, Nat.reduceEqDiff, Nat.reduceAdd, Nat.reduceLT, ↓us_ifalseSet, r_ifalseSet]
      refine m_call (itimes_ok r (turnL s) (turnL_row hrj.1) (by rw [turnL_len, hri.2, hrj.2]) _) ?_
      rintro _ w11 hx11 rfl
      have hx11 : Ext w10 w11 := by first | exact hx11 | exact ud hx11 | exact ud (ud hx11)
      have hx911 := hx10.trans hx11
      have hm11 := hm9.ext hx911
      have ho11 := ho9.ext hx911
      have hy11 := hy9.ext hx911
      simp only [↓vsd, vsn, gW, qd, qv, ev, pick, argE, zipE, ne_eq, eq_self, forall_const, implies_true, if_true, if_false, reduceIte, reduceCtorEq, Nat.reduceEqDiff, Nat.reduceAdd, Nat.reduceLT, ↓us_ifalseSet, r_ifalseSet]
      refine m_put hm11 ?_
      rintro w12 hm12 hu12
      have hx12 : Ext w2 w12 := hu12.below (hx9.trans hx911) (by omega)
      simp only [↓vsd, vsn, gW, qd, qv, ev, pick, argE, zipE, ne_eq, eq_self, forall_const, implies_true, if_true, if_false, reduceIte, reduceCtorEq, Nat.reduceEqDiff, Nat.reduceAdd, Nat.reduceLT, ↓us_ifalseSet, r_ifalseSet]
      refine ⟨inR_i64 (by omega), UpTo.next hlj ⟨rfl, ⟨_, hm12, fun z => ?_⟩, hx12, ho11.upd hu12 (hm11.apart ho11), hy11.upd hu12 (hm11.apart hy11)⟩⟩
      rw [put1_mem, hL9, htk]
      constructor
      · rintro ((h1 | ⟨q, h1, e⟩) | e)
        · exact .inl h1
        · exact .inr ⟨q, List.mem_append.2 (.inl h1), e⟩
        · exact .inr ⟨s, List.mem_append.2 (.inr (List.mem_singleton.2 rfl)), e⟩
      · rintro (h1 | ⟨q, h1, e⟩)
        · exact .inl (.inl h1)
        · rcases List.mem_append.1 h1 with h1 | h1
          · exact .inl (.inr ⟨q, h1, e⟩)
          · rw [List.mem_singleton.1 h1] at e; exact .inr e
    · obtain rfl : j = (leadR st cs2).length := by omega
      have hljI : ¬ (((leadR st cs2).length : Nat) : Int) < (leadR st cs2).length := by omega
      rw [List.take_length] at hL9
      simp only [↓vsd, vsn, gW, qd, qv, ev, pick, argE, zipE, ne_eq, eq_self, forall_const, implies_true, if_true, if_false, reduceIte, reduceCtorEq, Nat.reduceEqDiff, Nat.reduceAdd, Nat.reduceLT, ↓us_ifalseSet, r_ifalseSet, hljI]
      exact ⟨inR_i64 (by omega), UpTo.next hli ⟨rfl, ⟨L9, hm9, fun z => by rw [hL9, hfs]⟩, hx9, ho9⟩⟩
  · obtain rfl : i = (leadR st cs).length := by omega
    have hliI : ¬ (((leadR st cs).length : Nat) : Int) < (leadR st cs).length := by omega
    simp only [↓vsd, vsn, gW, qd, qv, ev, pick, argE, zipE, ne_eq, eq_self, forall_const, implies_true, if_true, if_false, reduceIte, reduceCtorEq, Nat.reduceEqDiff, Nat.reduceAdd, Nat.reduceLT, ↓us_ifalseSet, r_ifalseSet, hliI]
    rw [List.take_length] at hL
    exact ⟨hx02.trans hx6, m, L, rfl, hm6, by have := hx02.size; omega, hL⟩
end Go.Proofs.YthopbkemkfjebaaGreat
