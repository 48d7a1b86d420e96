/-
  The heads of a touch, of both sides.
  Conditions: none.
-/
import Derived.Test.YthopbkemkfjebaaGreatKA30
import Derived.Test.YthopbkemkfjebaaGreatKA31
import Derived.Test.YthopbkemkfjebaaGreatKPx
set_option linter.unusedSimpArgs false
set_option linter.unusedVariables false
set_option linter.defProp false
namespace Go.Proofs.YthopbkemkfjebaaGreat
open Go Go.RowKit
section
variable (P : Program) (k : KT) (e : Env) (w : World)
abbrev b55_1 : X := (.cond (.t 18) .skip (.exit 0))
def t55_1 := b55_1
theorem u55_1 : vcK P t55_1 k e w = vcK P b55_1 k e w := rfl
abbrev b55_2 : X := (.reg [2, 3, 4, 7, 8, 9] (.c (.q 31 [] (.mv (.t 8))) (.c (.q 32 [] (.mv (.t 7))) (.c (.e (some 33) [] (.bsl 9 1 [(.t 32)])) (.c (.e (some 34) [] (.app 23 9 1 16 [(S [])] 23 (.t 31) (.t 33))) (.c (.q 8 [] (.mv (.t 34))) .nil))))))
def t55_2 := b55_2
theorem u55_2 : vcK P t55_2 k e w = vcK P b55_2 k e w := rfl
abbrev b55_3 : X := (.reg [2, 3, 4, 7, 8, 9] (.c (.q 19 [] (.mv (.t 9))) (.c (.q 20 [] (.bin .add (.t 19) (.c (.int .i64 1)))) (.c (.q 9 [] (.mv (.t 20))) .nil))))
def t55_3 := b55_3
theorem u55_3 : vcK P t55_3 k e w = vcK P b55_3 k e w := rfl
abbrev b55_4 : X := (.seq (.blk 1 (.seq (.drw [2, 3, 4, 7, 8, 9] (.c (.q 21 [] (.mv (.t 7))) (.c (.q 22 [] (.lda 3 (.t 3))) (.c (.q 23 [] (.lda 2 (.t 4))) (.c (.q 24 [] (.mv (.t 2))) (.c (.q 25 [] (.mv (.t 9))) (.c (.q 26 [] (.mv (.t 9))) (.c (.q 27 [] (.bin .add (.t 26) (.c (.int .i64 1)))) (.c (.q 28 [] (.sub (.t 24) (some (.t 25)) (some (.t 27)))) (.c (.e (some 29) [] (.call false 108 [(.t 22), (.t 23), (.t 28)])) (.c (.e (some 30) [] (.call false 93 [(.t 21), (.t 29)])) (.c (.q 7 [] (.mv (.t 30))) .nil)))))))))))) t55_2)) t55_3)
def t55_4 := b55_4
theorem u55_4 : vcK P t55_4 k e w = vcK P b55_4 k e w := rfl
abbrev b55_5 : X := (.seq (.seq (.reg [2, 3, 4, 7, 8, 9, 18] (.c (.q 15 [] (.mv (.t 9))) (.c (.q 16 [] (.mv (.t 2))) (.c (.q 17 [] (.len (.t 16))) (.c (.q 18 [] (.bin .lss (.t 15) (.t 17))) .nil))))) t55_1) t55_4)
def t55_5 := b55_5
theorem u55_5 : vcK P t55_5 k e w = vcK P b55_5 k e w := rfl
abbrev b55_6 : X := (.blk 0 (.loop [7, 8, 9] [2, 3, 4] t55_5))
def t55_6 := b55_6
theorem u55_6 : vcK P t55_6 k e w = vcK P b55_6 k e w := rfl
abbrev b55_7 : X := (.seq (.reg [6] (.c (.q 35 [] (.mv (.t 8))) (.c (.q 6 [] (.mv (.t 35))) .nil))) .ret)
def t55_7 := b55_7
theorem u55_7 : vcK P t55_7 k e w = vcK P b55_7 k e w := rfl
abbrev b55_8 : X := (.seq (.seq (.reg [2, 3, 4, 7, 8, 9] (.c (.q 9 [] (.mv (.c (.int .i64 0)))) .nil)) t55_6) t55_7)
def t55_8 := b55_8
theorem u55_8 : vcK P t55_8 k e w = vcK P b55_8 k e w := rfl
abbrev b55_9 : X := (.seq (.reg [2, 3, 4, 7, 8] (.c (.q 13 [] (.mv (.t 7))) (.c (.e (some 14) [] (.bsl 9 1 [(.t 13)])) (.c (.q 8 [] (.mv (.t 14))) .nil)))) t55_8)
def t55_9 := b55_9
theorem u55_9 : vcK P t55_9 k e w = vcK P b55_9 k e w := rfl
abbrev b55_10 : X := (.seq (.reg [2, 3, 4, 7] (.c (.q 10 [] (.fa 1 (.t 3))) (.c (.q 11 [] (.ld (.t 10))) (.c (.e (some 12) [] (.call false 70 [(.t 11)])) (.c (.q 7 [] (.mv (.t 12))) .nil))))) t55_9)
def t55_10 := b55_10
theorem u55_10 : vcK P t55_10 k e w = vcK P b55_10 k e w := rfl
abbrev b55_0 : X := (.seq (.reg [2, 3, 4] (.c (.e (some 3) [] (.box 25 (.t 0))) (.c (.e (some 4) [] (.box 27 (.t 1))) (.c (.q 6 [] (.mv (.c (.slice none 0 0)))) .nil)))) t55_10)
def x_sl9Heads := b55_0
theorem u55_0 : vcK P x_sl9Heads k e w = vcK P b55_0 k e w := rfl
def r_sl9Heads : List XO := [(.mv (.t 6))]
theorem c_sl9Heads : convF Tryz.prog [56, 58, 59, 60, 61, 62, 72, 73, 77, 97, 98, 109, 110, 111, 112, 115, 128, 136] Tryz.f55 [([2, 3, 4], []), ([2, 3, 4, 7], []), ([2, 3, 4, 7, 8], []), ([2, 3, 4, 7, 8, 9], []), ([7, 8, 9], [2, 3, 4]), ([2, 3, 4, 7, 8, 9, 18], []), ([2, 3, 4, 7, 8, 9], []), ([2, 3, 4, 7, 8, 9], []), ([2, 3, 4, 7, 8, 9], []), ([6], [])] = some (x_sl9Heads, r_sl9Heads) := by kernel_rfl
def us_sl9Heads :=  (aI (aI (aI @u55_0 @u55_1) (aI @u55_2 (aI @u55_3 @u55_4))) (aI (aI @u55_5 (aI @u55_6 @u55_7)) (aI @u55_8 (aI @u55_9 @u55_10))))
end
/-- The head of a lead with a call. -/
def HD (st : Nat) (cs : List (List UInt8)) (b s : List UInt8) (c : UInt8) : List UInt8 := headC st cs b s [c]
/-- The head behind the first k leads. -/
def headP (st : Nat) (cs : List (List UInt8)) (b s t : List UInt8) (k : Nat) : List UInt8 := prodL (HD st cs b s) st (t.take k)
def headsP (st : Nat) (cs : List (List UInt8)) (b s t : List UInt8) (k : Nat) : List (List UInt8) := (List.range k).map (headP st cs b s t)
theorem headsP_len (st : Nat) (cs : List (List UInt8)) (b s t : List UInt8) (k : Nat) : (headsP st cs b s t k).length = k := by simp [headsP]
theorem headsP_get (st : Nat) (cs : List (List UInt8)) (b s t : List UInt8) (k i : Nat) (h : i < k) : (headsP st cs b s t k).getD i [] = headP st cs b s t i := by
  unfold headsP
  rw [List.getD_eq_getElem?_getD, List.getElem?_map, List.getElem?_range h]; rfl
theorem headsP_succ (st : Nat) (cs : List (List UInt8)) (b s t : List UInt8) (k : Nat) : headsP st cs b s t (k + 1) = headsP st cs b s t k ++ [headP st cs b s t k] := by simp [headsP, List.range_succ]
theorem headP_zero (st : Nat) (cs : List (List UInt8)) (b s t : List UInt8) : headP st cs b s t 0 = roundsL st := rfl
theorem headP_succ (st : Nat) (cs : List (List UInt8)) (b s t : List UInt8) (k : Nat) (h : k < t.length) : headP st cs b s t (k + 1) = timesL (headP st cs b s t k) (HD st cs b s (t.getD k 0)) := by
  unfold headP prodL
  rw [List.take_add_one, List.getElem?_eq_getElem h, List.getD_eq_getElem?_getD, List.getElem?_eq_getElem h, Option.toList_some, List.foldl_append]
  rfl
theorem HD_row {nm : List UInt8} {st : Nat} {cs : List (List UInt8)} {b s : List UInt8} (h : IsMC nm st cs b s) (c : UInt8) : IsRow (HD st cs b s c) ∧ (HD st cs b s c).length = st := headC_row h [c]
theorem headP_row {nm : List UInt8} {st : Nat} {cs : List (List UInt8)} {b s : List UInt8} (h : IsMC nm st cs b s) (t : List UInt8) (k : Nat) : IsRow (headP st cs b s t k) ∧ (headP st cs b s t k).length = st :=
  prodL_row (by have := h.1.2.1; omega) (HD_row h) _
theorem sl9Heads_ok (nm : List UInt8) (st : Nat) (v : Value) (cs : List (List UInt8)) (b s t : List UInt8) (hm : IsMC nm st cs b s) (ht : t.length ≤ 60) (w : World) (h : Sq fS 1 w v cs) : Fn 55 [mV nm st v, kV b s, S t] w (fun r w' => Own fS 1 9 w.heap.size w' r (headsP st cs b s t (t.length + 1))) := by
  have h8 := hm.1.2.1
  (refine callsV_of mix Tryz.func55 c_sl9Heads ?_; simp only [↓vsd, vsn, gW, qd, qv, ev, pick, argE, zipE, ne_eq, eq_self, forall_const, implies_true, if_true, if_false, reduceIte, reduceCtorEq, Nat.reduceEqDiff, Nat.reduceAdd, Nat.reduceLT, ↓us_sl9Heads, r_sl9Heads])
  refine m_al ?_
  rintro b1 w1 hb1 hblk1 hx1 hs1
  have h1 : Blk w1 b1 (fM nm st v) 25 := hblk1
  simp only [↓vsd, vsn, gW, qd, qv, ev, pick, argE, zipE, ne_eq, eq_self, forall_const, implies_true, if_true, if_false, reduceIte, reduceCtorEq, Nat.reduceEqDiff, Nat.reduceAdd, Nat.reduceLT, ↓us_sl9Heads, r_sl9Heads, h1.facts, fMg]
  refine m_al ?_
  rintro b2 w2 hb2 hblk2 hx2 hs2
  have h2 : Blk w2 b2 (fQ b s) 27 := hblk2
  have h12 := h1.ext hx2
  have hx12 := hx1.trans hx2
  simp only [↓vsd, vsn, gW, qd, qv, ev, pick, argE, zipE, ne_eq, eq_self, forall_const, implies_true, if_true, if_false, reduceIte, reduceCtorEq, Nat.reduceEqDiff, Nat.reduceAdd, Nat.reduceLT, ↓us_sl9Heads, r_sl9Heads, h12.facts, h2.facts, fMg, fQg]
  refine m_call (sl1Rounds_ok st (by omega) _) ?_
  rintro _ w4 hx4 rfl
  have hx4 : Ext w2 w4 := by first | exact hx4 | exact ud hx4
  simp only [↓vsd, vsn, gW, qd, qv, ev, pick, argE, zipE, ne_eq, eq_self, forall_const, implies_true, if_true, if_false, reduceIte, reduceCtorEq, Nat.reduceEqDiff, Nat.reduceAdd, Nat.reduceLT, ↓us_sl9Heads, r_sl9Heads]
  refine m_bsl (one_el rfl) ?_
  rintro b5 w5 hb5 hblk5 hx5 hs5
  simp only [↓vsd, vsn, gW, qd, qv, ev, pick, argE, zipE, ne_eq, eq_self, forall_const, implies_true, if_true, if_false, reduceIte, reduceCtorEq, Nat.reduceEqDiff, Nat.reduceAdd, Nat.reduceLT, ↓us_sl9Heads, r_sl9Heads]
  have hx25 := hx4.trans hx5
  refine m_upto t.length (fun i vs w' => ∃ x, vs = [S (headP st cs b s t i), x, .int .i64 i] ∧ Own fS 1 9 w2.heap.size w' x (headsP st cs b s t (i + 1)) ∧ Ext w2 w') ⟨_, rfl, (Own.one fS_len hblk5 rfl (by have := hx4.size; omega)).to rfl, hx25⟩ ?_
  rintro i vs w6 hi ⟨x, rfl, ho6, hx6⟩
  have h16 := h12.ext hx6
  have h26 := h2.ext hx6
  have hx16 := hx12.trans hx6
  by_cases hlt : i < t.length
  · have hltI : (i : Int) < t.length := by omega
    have hltJ : ¬ (t.length : Int) ≤ i := by omega
    have hH := HD_row hm (t.getD i 0)
    have hP := headP_row hm t i
    have hs1 := sub_one t i hlt
    simp only [↓vsd, vsn, gW, qd, qv, ev, pick, argE, zipE, ne_eq, eq_self, forall_const, implies_true, if_true, if_false, reduceIte, reduceCtorEq, Nat.reduceEqDiff, Nat.reduceAdd, Nat.reduceLT, ↓us_sl9Heads, r_sl9Heads, h16.facts, h26.facts, fMg, fQg, hltI, hltJ]
    rw [hs1]
    refine ⟨inR_i64 (by omega), by omega, m_call (sl8Head_ok nm st v cs b s [t.getD i 0] hm _ (h.ext (by first | exact hx16 | exact dr hx16))) ?_⟩
    rintro _ w7 hx7 rfl
    have hx7 : Ext w6 w7 := by first | exact hx7 | exact ud hx7
    simp only [↓vsd, vsn, gW, qd, qv, ev, pick, argE, zipE, ne_eq, eq_self, forall_const, implies_true, if_true, if_false, reduceIte, reduceCtorEq, Nat.reduceEqDiff, Nat.reduceAdd, Nat.reduceLT, ↓us_sl9Heads, r_sl9Heads]
    refine m_call (sl1Times_ok _ _ hH.1 (by show (headP st cs b s t i).length = (HD st cs b s (t.getD i 0)).length; rw [hH.2, hP.2]) _) ?_
    rintro _ w7' hx7' rfl
    have hx7' : Ext w7 w7' := by first | exact hx7' | exact ud hx7'
    simp only [↓vsd, vsn, gW, qd, qv, ev, pick, argE, zipE, ne_eq, eq_self, forall_const, implies_true, if_true, if_false, reduceIte, reduceCtorEq, Nat.reduceEqDiff, Nat.reduceAdd, Nat.reduceLT, ↓us_sl9Heads, r_sl9Heads]
    refine m_bsl (one_el rfl) ?_
    rintro b8 w8 hb8 hblk8 hx8 hs8
    have hx8 : Ext w7' w8 := by first | exact hx8 | exact ud hx8
    simp only [↓vsd, vsn, gW, qd, qv, ev, pick, argE, zipE, ne_eq, eq_self, forall_const, implies_true, if_true, if_false, reduceIte, reduceCtorEq, Nat.reduceEqDiff, Nat.reduceAdd, Nat.reduceLT, ↓us_sl9Heads, r_sl9Heads]
    have hx78 := (hx7.trans hx7').trans hx8
    refine m_app (ho6.ext hx78) (Sq.one fS_len hblk8 rfl) fS_one (by decide) (by rw [headsP_len]; simp; omega) (by decide) ((hx6.trans hx78).size) ?_
    rintro x9 w9 ho9 hg9
    simp only [↓vsd, vsn, gW, qd, qv, ev, pick, argE, zipE, ne_eq, eq_self, forall_const, implies_true, if_true, if_false, reduceIte, reduceCtorEq, Nat.reduceEqDiff, Nat.reduceAdd, Nat.reduceLT, ↓us_sl9Heads, r_sl9Heads]
    have hx9 := (ho6.ext hx78).grown (hx6.trans hx78) (Nat.le_refl _) hg9
    exact ⟨inR_i64 (by omega), UpTo.next hlt ⟨x9, by rw [headP_succ st cs b s t i hlt]; rfl, ho9.to (by rw [headsP_succ st cs b s t (i + 1), headP_succ st cs b s t i hlt]), hx9⟩⟩
  · obtain rfl : i = t.length := by omega
    have hltI : ¬ (t.length : Int) < t.length := by omega
    simp only [↓vsd, vsn, gW, qd, qv, ev, pick, argE, zipE, ne_eq, eq_self, forall_const, implies_true, if_true, if_false, reduceIte, reduceCtorEq, Nat.reduceEqDiff, Nat.reduceAdd, Nat.reduceLT, ↓us_sl9Heads, r_sl9Heads, hltI]
    exact ⟨hx12.trans hx6, ho6.mono hx12.size⟩
end Go.Proofs.YthopbkemkfjebaaGreat
