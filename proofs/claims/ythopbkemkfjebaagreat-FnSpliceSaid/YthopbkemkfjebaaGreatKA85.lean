/-
  Truth by lead heads and the first clash, of both sides.
  Conditions: none.
-/
import Derived.Test.YthopbkemkfjebaaGreatKA84
set_option linter.unusedSimpArgs false
set_option linter.unusedVariables false
set_option linter.defProp false
namespace Go.Proofs.YthopbkemkfjebaaGreat
open Go Go.RowKit
section
variable (P : Program) (k : KT) (e : Env) (w : World)
abbrev b49_1 : X := (.seq (.drw [6] (.c (.q 7 [] (.lda 3 (.t 3))) (.c (.q 8 [] (.fa 1 (.t 3))) (.c (.q 9 [] (.ld (.t 8))) (.c (.e (some 10) [] (.call false 70 [(.t 9)])) (.c (.e (some 11) [] (.call false 69 [(.t 7), (.t 10)])) (.c (.e (some 12) [] (.call false 68 [(.t 11)])) (.c (.q 13 [] (.mv (.t 12))) (.c (.q 14 [(13, true)] (.lda 3 (.t 3))) (.c (.q 15 [(13, true)] (.lda 3 (.t 3))) (.c (.q 16 [(13, true)] (.lda 2 (.t 4))) (.c (.q 17 [(13, true)] (.mv (.t 2))) (.c (.q 19 [(13, true)] (.mv (.t 2))) (.c (.q 20 [(13, true)] (.len (.t 19))) (.c (.e (some 18) [(13, true)] (.call false 55 [(.t 15), (.t 16), (.t 17)])) (.c (.q 21 [(13, true)] (.ssl 1 (.t 18) none (some (.t 20)))) (.c (.e (some 22) [(13, true)] (.call false 54 [(.t 14), (.t 21)])) (.c (.q 23 [(13, true)] (.lens (.t 22))) (.c (.q 24 [(13, true)] (.bin .eql (.t 23) (.c (.int .i64 0)))) (.c (.q 25 [] (.pick (.t 13) (.t 24) (.c (.bool false)))) (.c (.q 6 [] (.mv (.t 25))) .nil))))))))))))))))))))) .ret)
def t49_1 := b49_1
theorem u49_1 : vcK P t49_1 k e w = vcK P b49_1 k e w := rfl
abbrev b49_0 : X := (.seq (.reg [2, 3, 4] (.c (.e (some 3) [] (.box 25 (.t 0))) (.c (.e (some 4) [] (.box 27 (.t 1))) (.c (.q 6 [] (.mv (.c (.bool false)))) .nil)))) t49_1)
def x_sl11True := b49_0
theorem u49_0 : vcK P x_sl11True k e w = vcK P b49_0 k e w := rfl
def r_sl11True : List XO := [(.mv (.t 6))]
theorem c_sl11True : convF Tryz.prog [56, 58, 59, 60, 61, 62, 72, 73, 77, 97, 98, 109, 110, 111, 112, 115, 128, 136] Tryz.f49 [([2, 3, 4], []), ([6], [])] = some (x_sl11True, r_sl11True) := by kernel_rfl
def us_sl11True :=  (aI @u49_0 @u49_1)
abbrev b8_1 : X := (.cond (.t 12) (.seq (.reg [6, 7] (.c (.q 6 [] (.mv (.c (.bool false)))) (.c (.q 7 [] (.mv (.c (.bool false)))) .nil))) .ret) .skip)
def t8_1 := b8_1
theorem u8_1 : vcK P t8_1 k e w = vcK P b8_1 k e w := rfl
abbrev b8_2 : X := (.seq (.reg [6, 7] (.c (.q 13 [] (.lda 3 (.t 3))) (.c (.q 14 [] (.lda 2 (.t 4))) (.c (.q 15 [] (.mv (.t 2))) (.c (.e (some 16) [] (.call false 49 [(.t 13), (.t 14), (.t 15)])) (.c (.q 6 [] (.mv (.t 16))) (.c (.q 7 [] (.mv (.c (.bool true)))) .nil))))))) .ret)
def t8_2 := b8_2
theorem u8_2 : vcK P t8_2 k e w = vcK P b8_2 k e w := rfl
abbrev b8_3 : X := (.seq (.seq (.reg [2, 3, 4, 12] (.c (.q 8 [] (.lda 3 (.t 3))) (.c (.q 9 [] (.lda 2 (.t 4))) (.c (.q 10 [] (.mv (.t 2))) (.c (.e (some 11) [] (.call false 48 [(.t 8), (.t 9), (.t 10)])) (.c (.q 12 [] (.not (.t 11))) .nil)))))) t8_1) t8_2)
def t8_3 := b8_3
theorem u8_3 : vcK P t8_3 k e w = vcK P b8_3 k e w := rfl
abbrev b8_0 : X := (.seq (.reg [2, 3, 4] (.c (.e (some 3) [] (.box 25 (.t 0))) (.c (.e (some 4) [] (.box 27 (.t 1))) (.c (.q 6 [] (.mv (.c (.bool false)))) (.c (.q 7 [] (.mv (.c (.bool false)))) .nil))))) t8_3)
def x_sTrueByHeads := b8_0
theorem u8_0 : vcK P x_sTrueByHeads k e w = vcK P b8_0 k e w := rfl
def r_sTrueByHeads : List XO := [(.mv (.t 6)), (.mv (.t 7))]
theorem c_sTrueByHeads : convF Tryz.prog [56, 58, 59, 60, 61, 62, 72, 73, 77, 97, 98, 109, 110, 111, 112, 115, 128, 136] Tryz.f8 [([2, 3, 4], []), ([2, 3, 4, 12], []), ([6, 7], []), ([6, 7], [])] = some (x_sTrueByHeads, r_sTrueByHeads) := by kernel_rfl
def us_sTrueByHeads :=  (aI (aI @u8_0 @u8_1) (aI @u8_2 @u8_3))
end
theorem headsP_st {nm : Bs} {st : Nat} {cs : List Bs} {b s : Bs} (h : IsMC nm st cs b s) (t : Bs) (k : Nat) : ∀ r ∈ headsP st cs b s t k, IsRow r ∧ r.length = st := fun r hr => by
  obtain ⟨i, _, rfl⟩ := List.mem_map.1 hr
  exact headP_row h t i
def clT (st : Nat) (cs : List Bs) (b s t : Bs) : List (List Int) := clL st cs (headsP st cs b s t t.length)
/-- Does the touch hold by its lead heads? -/
def TrueT (st : Nat) (cs : List Bs) (b s t : Bs) : Prop := (leadR st cs).Nodup ∧ (clT st cs b s t).length = 0
instance (st : Nat) (cs : List Bs) (b s t : Bs) : Decidable (TrueT st cs b s t) := by unfold TrueT; infer_instance
theorem clT_len (st : Nat) (cs : List Bs) (b s t : Bs) (ht : t.length ≤ 60) : (clT st cs b s t).length ≤ 3600 := by
  refine Nat.le_trans (prs_len _ _ _) ?_
  rw [headsP_len]
  exact Nat.mul_le_mul ht ht
theorem sl11True_ok (nm : Bs) (st : Nat) (v : Value) (cs : List Bs) (b s t : Bs) (hM : IsMT nm st cs b s t) (w : World) (h : Sq fS 1 w v cs) : Fn 49 [mV nm st v, kV b s, S t] w (fun r _ => r = .bool (decide (TrueT st cs b s t))) := by
  have ht60 := hM.2.1
  have hcl := clT_len st cs b s t ht60.2
  have h38 : 3 ≤ st ∧ st ≤ 8 := by have := hM.1.1.2.1; omega
  have hcl0 := hM.1.1.2.2.1
  have hr0 : IsRow (roundsL st) := roundsL_row st h38
  (refine callsV_of mix Tryz.func49 c_sl11True ?_; simp only [↓vsd, vsn, gW, qd, qv, ev, pick, argE, zipE, ne_eq, eq_self, forall_const, implies_true, if_true, if_false, reduceIte, reduceCtorEq, Nat.reduceEqDiff, Nat.reduceAdd, Nat.reduceLT, ↓us_sl11True, r_sl11True])
  refine m_al ?_
  rintro b1 w1 hb1 hblk1 hx1 hs1
  have h1 : Blk w1 b1 (fM nm st v) 25 := hblk1
  simp only [↓vsd, vsn, gW, qd, qv, ev, pick, argE, zipE, ne_eq, eq_self, forall_const, implies_true, if_true, if_false, reduceIte, reduceCtorEq, Nat.reduceEqDiff, Nat.reduceAdd, Nat.reduceLT, ↓us_sl11True, r_sl11True, h1.facts, fMg]
  refine m_al ?_
  rintro b2 w2 hb2 hblk2 hx2 hs2
  have h2 : Blk w2 b2 (fQ b s) 27 := hblk2
  have h12 := h1.ext hx2
  have hx12 := hx1.trans hx2
  have hq2 := h.ext hx12
  simp only [↓vsd, vsn, gW, qd, qv, ev, pick, argE, zipE, ne_eq, eq_self, forall_const, implies_true, if_true, if_false, reduceIte, reduceCtorEq, Nat.reduceEqDiff, Nat.reduceAdd, Nat.reduceLT, ↓us_sl11True, r_sl11True, h12.facts, h2.facts, fMg, fQg, hq2.facts]
  refine m_call (sl1Rounds_ok st (by omega) _) ?_
  rintro _ w4 hx4 rfl
  have hx4 : Ext w2 w4 := by first | exact hx4 | exact ud hx4 | exact ud (ud hx4)
  have hx14 := hx12.trans hx4
  simp only [↓vsd, vsn, gW, qd, qv, ev, pick, argE, zipE, ne_eq, eq_self, forall_const, implies_true, if_true, if_false, reduceIte, reduceCtorEq, Nat.reduceEqDiff, Nat.reduceAdd, Nat.reduceLT, ↓us_sl11True, r_sl11True]
  refine m_call (sl11Lead_ok nm st v cs (roundsL st) hM.1.1 hr0 _ (by first | exact h.ext hx14 | exact (h.ext hx14).ext (dr (Ext.refl _)))) ?_
  rintro x w5 hx5 ho5
  have hx5 : Ext w4 w5 := by first | exact hx5 | exact ud hx5 | exact ud (ud hx5)
  have hq5 : Sq fS 1 w5 x (leadR st cs) := ho5.sq
  simp only [↓vsd, vsn, gW, qd, qv, ev, pick, argE, zipE, ne_eq, eq_self, forall_const, implies_true, if_true, if_false, reduceIte, reduceCtorEq, Nat.reduceEqDiff, Nat.reduceAdd, Nat.reduceLT, ↓us_sl11True, r_sl11True]
  refine m_call (sl7True_ok x (leadR st cs) (by rw [leadR_len]; omega) _ (by first | exact hq5 | exact hq5.ext (dr (Ext.refl _)))) ?_
  rintro _ w3 hx3 rfl
  have hx3 : Ext w5 w3 := by first | exact hx3 | exact ud hx3 | exact ud (ud hx3)
  have hx23 := (hx4.trans hx5).trans hx3
  have h13 := h12.ext hx23
  have h23 := h2.ext hx23
  have hx13 := hx12.trans hx23
  by_cases hn : (leadR st cs).Nodup
  · simp only [↓vsd, vsn, gW, qd, qv, ev, pick, argE, zipE, ne_eq, eq_self, forall_const, implies_true, if_true, if_false, reduceIte, reduceCtorEq, Nat.reduceEqDiff, Nat.reduceAdd, Nat.reduceLT, ↓us_sl11True, r_sl11True, hn, h12.facts, h2.facts, h13.facts, h23.facts, fMg, fQg]
    refine m_call (sl9Heads_ok nm st v cs b s t hM.1 hM.2.1.2 _ (by first | exact h.ext hx13 | exact (h.ext hx13).ext (dr (Ext.refl _)))) ?_
    rintro y w6 hx6 ho6
    have hx6 : Ext w3 w6 := by first | exact hx6 | exact ud hx6 | exact ud (ud hx6)
    obtain ⟨hd, hoh, _⟩ := ho6.head .i64 t.length (by rw [headsP_len]; omega)
    rw [headsP_take] at hoh
    have hx16 := hx13.trans hx6
    simp only [↓vsd, vsn, gW, qd, qv, ev, pick, argE, zipE, ne_eq, eq_self, forall_const, implies_true, if_true, if_false, reduceIte, reduceCtorEq, Nat.reduceEqDiff, Nat.reduceAdd, Nat.reduceLT, ↓us_sl11True, r_sl11True, hd]
    refine m_call (sl11Clashes_ok nm st v _ cs _ hM.1.1 (headsP_st hM.1 t t.length) (by rw [headsP_len]; omega) _ (by first | exact h.ext hx16 | exact (h.ext hx16).ext (dr (Ext.refl _))) (by first | exact hoh.sq | exact hoh.sq.ext (dr (Ext.refl _)))) ?_
    rintro y w7 hx7 hN
    have hx7 : Ext w6 w7 := by first | exact hx7 | exact ud hx7 | exact ud (ud hx7)
    have hN : NestU fI 3 32 w6.heap.size w7.heap.size w7 y (clT st cs b s t) := by first | exact hN | exact hN.mono (by show w6.heap.size ≤ _; exact Nat.le_refl _) (Nat.le_refl _)
    by_cases h0 : (clT st cs b s t).length = 0
    · have h0I : (((clT st cs b s t).length : Nat) : Int) = 0 := by omega
      simp only [↓vsd, vsn, gW, qd, qv, ev, pick, argE, zipE, ne_eq, eq_self, forall_const, implies_true, if_true, if_false, reduceIte, reduceCtorEq, Nat.reduceEqDiff, Nat.reduceAdd, Nat.reduceLT, ↓us_sl11True, r_sl11True, hN.sq.facts, h0I]
      exact ⟨hx16.trans hx7, (decide_eq_true ⟨hn, h0⟩).symm⟩
    · have h0I : ¬ (((clT st cs b s t).length : Nat) : Int) = 0 := by omega
      simp only [↓vsd, vsn, gW, qd, qv, ev, pick, argE, zipE, ne_eq, eq_self, forall_const, implies_true, if_true, if_false, reduceIte, reduceCtorEq, Nat.reduceEqDiff, Nat.reduceAdd, Nat.reduceLT, ↓us_sl11True, r_sl11True, hN.sq.facts, h0I]
      exact ⟨hx16.trans hx7, (decide_eq_false fun hh => h0 hh.2).symm⟩
  · simp only [↓vsd, vsn, gW, qd, qv, ev, pick, argE, zipE, ne_eq, eq_self, forall_const, implies_true, if_true, if_false, reduceIte, reduceCtorEq, Nat.reduceEqDiff, Nat.reduceAdd, Nat.reduceLT, ↓us_sl11True, r_sl11True, hn]
    exact ⟨hx13, (decide_eq_false fun hh => hn hh.1).symm⟩
def tbhV (nm : Bs) (st : Int) (cs : List Bs) (b s t : Bs) : Bool := decide (IsMT nm st cs b s t) && decide (TrueT st.toNat cs b s t)
theorem sTrueByHeads_ok (nm : Bs) (st : Int) (v : Value) (cs : List Bs) (b s t : Bs) (hnm : nm.length ≤ 1048576) (hs : ∀ c ∈ cs, c.length ≤ 1048576) (hl : cs.length ≤ 1000000000) (hb : b.length ≤ 1048576 ∧ s.length ≤ 1048576) (ht : t.length ≤ 1000000000) (w : World) (h : Sq fS 1 w v cs) : Fn 8 [mV nm st v, kV b s, S t] w (fun r _ => r = .tuple ⟨[.bool (tbhV nm st cs b s t), .bool (decide (IsMT nm st cs b s t))]⟩) := by
  (refine callsV_of mix Tryz.func8 c_sTrueByHeads ?_; simp only [↓vsd, vsn, gW, qd, qv, ev, pick, argE, zipE, ne_eq, eq_self, forall_const, implies_true, if_true, if_false, reduceIte, reduceCtorEq, Nat.reduceEqDiff, Nat.reduceAdd, Nat.reduceLT, ↓us_sTrueByHeads, r_sTrueByHeads])
  refine m_al ?_
  rintro b1 w1 hb1 hblk1 hx1 hs1
  have h1 : Blk w1 b1 (fM nm st v) 25 := hblk1
  simp only [↓vsd, vsn, gW, qd, qv, ev, pick, argE, zipE, ne_eq, eq_self, forall_const, implies_true, if_true, if_false, reduceIte, reduceCtorEq, Nat.reduceEqDiff, Nat.reduceAdd, Nat.reduceLT, ↓us_sTrueByHeads, r_sTrueByHeads, h1.facts, fMg]
  refine m_al ?_
  rintro b2 w2 hb2 hblk2 hx2 hs2
  have h2 : Blk w2 b2 (fQ b s) 27 := hblk2
  have h12 := h1.ext hx2
  have hx12 := hx1.trans hx2
  have hq2 := h.ext hx12
  simp only [↓vsd, vsn, gW, qd, qv, ev, pick, argE, zipE, ne_eq, eq_self, forall_const, implies_true, if_true, if_false, reduceIte, reduceCtorEq, Nat.reduceEqDiff, Nat.reduceAdd, Nat.reduceLT, ↓us_sTrueByHeads, r_sTrueByHeads, h12.facts, h2.facts, fMg, fQg, hq2.facts]
  refine m_call (sl9Asked_ok nm st v cs b s t hnm hs hl hb ht _ (h.ext hx12)) ?_
  rintro _ w3 hx3 rfl
  have hx3 : Ext w2 w3 := by first | exact hx3 | exact ud hx3 | exact ud (ud hx3)
  have hx13 := hx12.trans hx3
  have h13 := h12.ext hx3
  have h23 := h2.ext hx3
  by_cases hM : IsMC nm st cs b s ∧ IsTch t
  · have hM' : IsMT nm st cs b s t := hM
    obtain ⟨n, rfl⟩ : ∃ n : Nat, st = n := ⟨st.toNat, by have := hM.1.1.2.1; omega⟩
    simp only [↓vsd, vsn, gW, qd, qv, ev, pick, argE, zipE, ne_eq, eq_self, forall_const, implies_true, if_true, if_false, reduceIte, reduceCtorEq, Nat.reduceEqDiff, Nat.reduceAdd, Nat.reduceLT, ↓us_sTrueByHeads, r_sTrueByHeads, hM, h13.facts, h23.facts, fMg, fQg]
    refine m_call (sl11True_ok nm n v cs b s t hM _ (by first | exact h.ext hx13 | exact (h.ext hx13).ext (dr (Ext.refl _)))) ?_
    rintro _ w4 hx4 rfl
    have hx4 : Ext w3 w4 := by first | exact hx4 | exact ud hx4 | exact ud (ud hx4)
    simp only [↓vsd, vsn, gW, qd, qv, ev, pick, argE, zipE, ne_eq, eq_self, forall_const, implies_true, if_true, if_false, reduceIte, reduceCtorEq, Nat.reduceEqDiff, Nat.reduceAdd, Nat.reduceLT, ↓us_sTrueByHeads, r_sTrueByHeads]
    exact ⟨hx13.trans hx4, by rw [tbhV, decide_eq_true hM', Bool.true_and, Int.toNat_natCast]⟩
  · have hM' : ¬ IsMT nm st cs b s t := hM
    simp only [↓vsd, vsn, gW, qd, qv, ev, pick, argE, zipE, ne_eq, eq_self, forall_const, implies_true, if_true, if_false, reduceIte, reduceCtorEq, Nat.reduceEqDiff, Nat.reduceAdd, Nat.reduceLT, ↓us_sTrueByHeads, r_sTrueByHeads, hM]
    exact ⟨hx13, by rw [tbhV, decide_eq_false hM']; rfl⟩
end Go.Proofs.YthopbkemkfjebaaGreat
