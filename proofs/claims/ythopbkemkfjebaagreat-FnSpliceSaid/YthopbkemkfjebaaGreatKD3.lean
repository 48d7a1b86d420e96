/-
  Products, inverses, powers and rounds of rows, as program and reference compute them.
  Conditions: none.
-/
import Derived.Test.YthopbkemkfjebaaGreatKA10
import Derived.Test.YthopbkemkfjebaaGreatKD2
set_option linter.unusedSimpArgs false
set_option linter.unusedVariables false
set_option linter.defProp false
namespace Go.Proofs.YthopbkemkfjebaaGreat
open Go Go.RowKit
section
variable (P : Program) (k : KT) (e : Env) (w : World)
abbrev b88_1 : X := (.reg [0, 3, 9, 10] (.c (.q 13 [] (.mv (.t 3))) (.c (.q 14 [] (.mv (.t 0))) (.c (.q 15 [] (.mv (.t 4))) (.c (.q 16 [] (.idx (.t 14) (.t 15))) (.c (.q 17 [] (.bin .sub (.t 16) (.c (.int .u8 49)))) (.c (.q 18 [] (.mv (.t 4))) (.c (.q 19 [] (.bin .add (.c (.int .i64 49)) (.t 18))) (.c (.q 20 [] (.cvi .u8 (.t 19))) (.c (.q 21 [] (.ia 1 (.t 13) (.t 17))) (.c (.e none [] (.st 1 (.t 21) (.t 20))) .nil)))))))))))
def t88_1 := b88_1
theorem u88_1 : vcK P t88_1 k e w = vcK P b88_1 k e w := rfl
abbrev b88_2 : X := (.reg [0, 3, 9, 10] (.c (.q 22 [] (.bin .add (.t 10) (.c (.int .i64 1)))) (.c (.q 10 [] (.mv (.t 22))) .nil)))
def t88_2 := b88_2
theorem u88_2 : vcK P t88_2 k e w = vcK P b88_2 k e w := rfl
abbrev b88_3 : X := (.seq (.blk 1 (.seq (.reg [0, 3, 4, 9, 10] (.c (.q 12 [] (.mv (.t 10))) (.c (.q 4 [] (.mv (.t 12))) .nil))) t88_1)) t88_2)
def t88_3 := b88_3
theorem u88_3 : vcK P t88_3 k e w = vcK P b88_3 k e w := rfl
abbrev b88_4 : X := (.seq (.cond (.t 11) .skip (.exit 0)) t88_3)
def t88_4 := b88_4
theorem u88_4 : vcK P t88_4 k e w = vcK P b88_4 k e w := rfl
abbrev b88_5 : X := (.seq (.reg [0, 3, 9, 10, 11] (.c (.q 11 [] (.bin .lss (.t 10) (.t 9))) .nil)) t88_4)
def t88_5 := b88_5
theorem u88_5 : vcK P t88_5 k e w = vcK P b88_5 k e w := rfl
abbrev b88_6 : X := (.blk 0 (.loop [10] [0, 3, 9] t88_5))
def t88_6 := b88_6
theorem u88_6 : vcK P t88_6 k e w = vcK P b88_6 k e w := rfl
abbrev b88_7 : X := (.seq (.reg [2] (.c (.q 23 [] (.mv (.t 3))) (.c (.e (some 24) [] (.b2s (.t 23))) (.c (.q 2 [] (.mv (.t 24))) .nil)))) .ret)
def t88_7 := b88_7
theorem u88_7 : vcK P t88_7 k e w = vcK P b88_7 k e w := rfl
abbrev b88_8 : X := (.seq (.seq (.reg [0, 3, 9, 10] (.c (.q 8 [] (.mv (.t 3))) (.c (.q 9 [] (.lens (.t 8))) (.c (.q 10 [] (.mv (.c (.int .i64 0)))) .nil)))) t88_6) t88_7)
def t88_8 := b88_8
theorem u88_8 : vcK P t88_8 k e w = vcK P b88_8 k e w := rfl
abbrev b88_9 : X := (.seq (.reg [0, 3] (.c (.q 5 [] (.mv (.t 0))) (.c (.q 6 [] (.len (.t 5))) (.c (.e (some 7) [] (.msl 22 5 1 1 [(.int .u8 0)] (.t 6) (.t 6))) (.c (.q 3 [] (.mv (.t 7))) .nil))))) t88_8)
def t88_9 := b88_9
theorem u88_9 : vcK P t88_9 k e w = vcK P b88_9 k e w := rfl
abbrev b88_0 : X := (.seq (.reg [0] (.c (.q 2 [] (.mv (.s []))) .nil)) t88_9)
def x_iturned := b88_0
theorem u88_0 : vcK P x_iturned k e w = vcK P b88_0 k e w := rfl
def r_iturned : List XO := [(.mv (.t 2))]
theorem c_iturned : convF Tryz.prog [56, 58, 59, 60, 61, 62, 72, 73, 77, 97, 98, 109, 110, 111, 112, 115, 128, 136] Tryz.f88 [([0], []), ([0, 3], []), ([0, 3, 9, 10], []), ([10], [0, 3, 9]), ([0, 3, 9, 10, 11], []), ([0, 3, 4, 9, 10], []), ([0, 3, 9, 10], []), ([0, 3, 9, 10], []), ([2], [])] = some (x_iturned, r_iturned) := by kernel_rfl
def us_iturned :=  (aI (aI (aI @u88_0 @u88_1) (aI @u88_2 (aI @u88_3 @u88_4))) (aI (aI @u88_5 @u88_6) (aI @u88_7 (aI @u88_8 @u88_9))))
abbrev b94_1 : X := (.cond (.t 10) .skip (.exit 0))
def t94_1 := b94_1
theorem u94_1 : vcK P t94_1 k e w = vcK P b94_1 k e w := rfl
abbrev b94_2 : X := (.reg [0, 3, 4] (.c (.q 11 [] (.mv (.t 4))) (.c (.q 12 [] (.bin .add (.t 11) (.c (.int .i64 1)))) (.c (.q 4 [] (.mv (.t 12))) .nil))))
def t94_2 := b94_2
theorem u94_2 : vcK P t94_2 k e w = vcK P b94_2 k e w := rfl
abbrev b94_3 : X := (.seq (.blk 1 (.reg [0, 3, 4] (.c (.q 13 [] (.mv (.t 3))) (.c (.q 14 [] (.mv (.t 0))) (.c (.q 15 [] (.mv (.t 4))) (.c (.e (some 16) [] (.call false 134 [(.t 14), (.t 15)])) (.c (.q 17 [] (.bin .sub (.t 16) (.c (.int .i64 1)))) (.c (.q 18 [] (.mv (.t 4))) (.c (.q 19 [] (.bin .add (.c (.int .i64 48)) (.t 18))) (.c (.q 20 [] (.cvi .u8 (.t 19))) (.c (.q 21 [] (.ia 1 (.t 13) (.t 17))) (.c (.e none [] (.st 1 (.t 21) (.t 20))) .nil)))))))))))) t94_2)
def t94_3 := b94_3
theorem u94_3 : vcK P t94_3 k e w = vcK P b94_3 k e w := rfl
abbrev b94_4 : X := (.seq (.seq (.reg [0, 3, 4, 10] (.c (.q 7 [] (.mv (.t 4))) (.c (.q 8 [] (.mv (.t 0))) (.c (.q 9 [] (.len (.t 8))) (.c (.q 10 [] (.bin .leq (.t 7) (.t 9))) .nil))))) t94_1) t94_3)
def t94_4 := b94_4
theorem u94_4 : vcK P t94_4 k e w = vcK P b94_4 k e w := rfl
abbrev b94_5 : X := (.blk 0 (.loop [4] [0, 3] t94_4))
def t94_5 := b94_5
theorem u94_5 : vcK P t94_5 k e w = vcK P b94_5 k e w := rfl
abbrev b94_6 : X := (.seq (.reg [2] (.c (.q 22 [] (.mv (.t 3))) (.c (.e (some 23) [] (.b2s (.t 22))) (.c (.q 2 [] (.mv (.t 23))) .nil)))) .ret)
def t94_6 := b94_6
theorem u94_6 : vcK P t94_6 k e w = vcK P b94_6 k e w := rfl
abbrev b94_7 : X := (.seq (.seq (.reg [0, 3, 4] (.c (.q 4 [] (.mv (.c (.int .i64 1)))) .nil)) t94_5) t94_6)
def t94_7 := b94_7
theorem u94_7 : vcK P t94_7 k e w = vcK P b94_7 k e w := rfl
abbrev b94_8 : X := (.seq (.reg [0, 3] (.c (.q 5 [] (.mv (.t 0))) (.c (.e (some 6) [] (.s2b 5 (.t 5))) (.c (.q 3 [] (.mv (.t 6))) .nil)))) t94_7)
def t94_8 := b94_8
theorem u94_8 : vcK P t94_8 k e w = vcK P b94_8 k e w := rfl
abbrev b94_0 : X := (.seq (.reg [0] (.c (.q 2 [] (.mv (.s []))) .nil)) t94_8)
def x_sl1Turn := b94_0
theorem u94_0 : vcK P x_sl1Turn k e w = vcK P b94_0 k e w := rfl
def r_sl1Turn : List XO := [(.mv (.t 2))]
theorem c_sl1Turn : convF Tryz.prog [56, 58, 59, 60, 61, 62, 72, 73, 77, 97, 98, 109, 110, 111, 112, 115, 128, 136] Tryz.f94 [([0], []), ([0, 3], []), ([0, 3, 4], []), ([4], [0, 3]), ([0, 3, 4, 10], []), ([0, 3, 4], []), ([0, 3, 4], []), ([2], [])] = some (x_sl1Turn, r_sl1Turn) := by kernel_rfl
def us_sl1Turn :=  (aI (aI (aI @u94_0 @u94_1) (aI @u94_2 @u94_3)) (aI (aI @u94_4 @u94_5) (aI @u94_6 (aI @u94_7 @u94_8))))
end
theorem iturned_ok (a : List UInt8) (ha : IsRow a) (w : World) : Fn 88 [S a] w (fun r _ => r = S (turnL a)) := by
  (refine callsV_of mix Tryz.func88 c_iturned ?_; simp only [↓vsd, vsn, gW, qd, qv, ev, pick, argE, zipE, ne_eq, eq_self, forall_const, implies_true, if_true, if_false, reduceIte, reduceCtorEq, Nat.reduceEqDiff, Nat.reduceAdd, Nat.reduceLT, ↓us_iturned, r_iturned])
  have h8 := ha.1
  refine m_msl (f := fU) (B := w.heap.size) (0 : UInt8) fU_len rfl (by omega) (by decide) (Nat.le_refl _) ?_
  rintro vo w1 ho1 _ hx1
  simp only [↓vsd, vsn, gW, qd, qv, ev, pick, argE, zipE, ne_eq, eq_self, forall_const, implies_true, if_true, if_false, reduceIte, reduceCtorEq, Nat.reduceEqDiff, Nat.reduceAdd, Nat.reduceLT, ↓us_iturned, r_iturned, ho1.sq.facts]
  rw [List.length_replicate]
  refine m_upto a.length (fun k vs w' => ∃ l : List UInt8, vs = [.int .i64 k] ∧ l.length = a.length ∧ (∀ j < k, l.getD (bell a j) 0 = UInt8.ofNat (49 + j)) ∧ Own fU 1 5 w.heap.size w' vo l ∧ Ext w w') ⟨_, rfl, List.length_replicate, fun j hj => absurd hj (Nat.not_lt_zero j), ho1, hx1⟩ ?_
  rintro k vs w2 hk ⟨l, rfl, hl, hget, ho, hx⟩
  by_cases hlt : k < a.length
  · have hltI : (k : Int) < a.length := by omega
    have hltJ : ¬ (a.length : Int) ≤ k := by omega
    have hlow := ha.low hlt
    have hhigh := ha.high hlt
    have hbe : ((a.getD k 0).toNat : Int) - 49 = (bell a k : Nat) := by unfold bell; omega
    have hbl := ha.bell_lt hlt
    simp only [↓vsd, vsn, gW, qd, qv, ev, pick, argE, zipE, ne_eq, eq_self, forall_const, implies_true, if_true, if_false, reduceIte, reduceCtorEq, Nat.reduceEqDiff, Nat.reduceAdd, Nat.reduceLT, ↓us_iturned, r_iturned, hltI, hltJ, ho.sq.facts, hl, hbe]
    refine ⟨by omega, inR_u8 (by omega), inR_i64 (by omega), inR_u8 (by omega), by omega, m_set1 (bell a k) (UInt8.ofNat (49 + k)) ho rfl (by omega) (by simp [fU, UInt8.toNat_ofNat', cells_int]; omega) fU_one ?_⟩
    rintro w4 ho4 hg4 hs4
    simp only [↓vsd, vsn, gW, qd, qv, ev, pick, argE, zipE, ne_eq, eq_self, forall_const, implies_true, if_true, if_false, reduceIte, reduceCtorEq, Nat.reduceEqDiff, Nat.reduceAdd, Nat.reduceLT, ↓us_iturned, r_iturned]
    refine ⟨inR_i64 (by omega), UpTo.next hlt ⟨_, rfl, by rw [List.length_set]; exact hl, fun j hj => ?_, ho4, ho.grown (hx) (Nat.le_refl _) hg4⟩⟩
    rw [getD_set]
    by_cases hjk : j = k
    · subst hjk
      rw [if_pos ⟨rfl, by omega⟩]
    · rw [if_neg (fun h => hjk (ha.inj' (by omega) hlt h.1.symm))]
      exact hget j (by omega)
  · obtain rfl : k = a.length := by omega
    have hltI : ¬ (a.length : Int) < a.length := by omega
    simp only [↓vsd, vsn, gW, qd, qv, ev, pick, argE, zipE, ne_eq, eq_self, forall_const, implies_true, if_true, if_false, reduceIte, reduceCtorEq, Nat.reduceEqDiff, Nat.reduceAdd, Nat.reduceLT, ↓us_iturned, r_iturned, hltI]
    refine m_b2s ho.sq ?_
    simp only [↓vsd, vsn, gW, qd, qv, ev, pick, argE, zipE, ne_eq, eq_self, forall_const, implies_true, if_true, if_false, reduceIte, reduceCtorEq, Nat.reduceEqDiff, Nat.reduceAdd, Nat.reduceLT, ↓us_iturned, r_iturned]
    exact ⟨hx, by rw [turn_unique ha hl hget]⟩
theorem sl1Turn_ok (a : List UInt8) (ha : IsRow a) (w : World) : Fn 94 [S a] w (fun r _ => r = S (turnL a)) := by
  (refine callsV_of mix Tryz.func94 c_sl1Turn ?_; simp only [↓vsd, vsn, gW, qd, qv, ev, pick, argE, zipE, ne_eq, eq_self, forall_const, implies_true, if_true, if_false, reduceIte, reduceCtorEq, Nat.reduceEqDiff, Nat.reduceAdd, Nat.reduceLT, ↓us_sl1Turn, r_sl1Turn])
  have h8 := ha.1
  refine m_s2bU w.heap.size (by omega) (Nat.le_refl _) ?_
  rintro vo w1 ho1 hx1 _
  simp only [↓vsd, vsn, gW, qd, qv, ev, pick, argE, zipE, ne_eq, eq_self, forall_const, implies_true, if_true, if_false, reduceIte, reduceCtorEq, Nat.reduceEqDiff, Nat.reduceAdd, Nat.reduceLT, ↓us_sl1Turn, r_sl1Turn]
  refine m_upto a.length (fun k vs w' => ∃ l : List UInt8, vs = [.int .i64 (k + 1 : Nat)] ∧ l.length = a.length ∧ (∀ j < k, l.getD (bell a j) 0 = UInt8.ofNat (49 + j)) ∧ Own fU 1 5 w.heap.size w' vo l ∧ Ext w w') ⟨_, rfl, rfl, fun j hj => absurd hj (Nat.not_lt_zero j), ho1, hx1⟩ ?_
  rintro k vs w2 hk ⟨l, rfl, hl, hget, ho, hx⟩
  by_cases hlt : k < a.length
  · have hltI : ((k + 1 : Nat) : Int) ≤ a.length := by omega
    have hltJ : ¬ (a.length : Int) < ((k + 1 : Nat) : Int) := by omega
    have hlow := ha.low hlt
    have hhigh := ha.high hlt
    have hbl := ha.bell_lt hlt
    simp only [↓vsd, vsn, gW, qd, qv, ev, pick, argE, zipE, ne_eq, eq_self, forall_const, implies_true, if_true, if_false, reduceIte, reduceCtorEq, Nat.reduceEqDiff, Nat.reduceAdd, Nat.reduceLT, ↓us_sl1Turn, r_sl1Turn, hltI, hltJ]
    refine m_call (sl1At_ok a (k + 1) (by omega) (by rw [Nat.add_sub_cancel]; omega) (by omega) _) ?_
    rintro _ w3 hx3 rfl
    rw [Nat.add_sub_cancel]
    have hbe : ((a.getD k 0).toNat : Int) - 48 - 1 = (bell a k : Nat) := by unfold bell; omega
    have ho3 := ho.ext hx3
    have e49 : (48 : Int) + ((k + 1 : Nat) : Int) = 49 + (k : Nat) := by omega
    simp only [↓vsd, vsn, gW, qd, qv, ev, pick, argE, zipE, ne_eq, eq_self, forall_const, implies_true, if_true, if_false, reduceIte, reduceCtorEq, Nat.reduceEqDiff, Nat.reduceAdd, Nat.reduceLT, ↓us_sl1Turn, r_sl1Turn, hbe, ho3.sq.facts, hl, e49]
    refine ⟨inR_i64 (by omega), inR_i64 (by omega), inR_u8 (by omega), by omega, m_set1 (bell a k) (UInt8.ofNat (49 + k)) ho3 rfl (by omega) (by simp [fU, UInt8.toNat_ofNat', cells_int]; omega) fU_one ?_⟩
    rintro w4 ho4 hg4 hs4
    simp only [↓vsd, vsn, gW, qd, qv, ev, pick, argE, zipE, ne_eq, eq_self, forall_const, implies_true, if_true, if_false, reduceIte, reduceCtorEq, Nat.reduceEqDiff, Nat.reduceAdd, Nat.reduceLT, ↓us_sl1Turn, r_sl1Turn]
    refine ⟨inR_i64 (by omega), UpTo.next hlt ⟨_, rfl, by rw [List.length_set]; exact hl, fun j hj => ?_, ho4, ho3.grown (hx.trans hx3) (Nat.le_refl _) hg4⟩⟩
    rw [getD_set]
    by_cases hjk : j = k
    · subst hjk
      rw [if_pos ⟨rfl, by omega⟩]
    · rw [if_neg (fun h => hjk (ha.inj' (by omega) hlt h.1.symm))]
      exact hget j (by omega)
  · obtain rfl : k = a.length := by omega
    have hltI : ¬ ((a.length + 1 : Nat) : Int) ≤ a.length := by omega
    simp only [↓vsd, vsn, gW, qd, qv, ev, pick, argE, zipE, ne_eq, eq_self, forall_const, implies_true, if_true, if_false, reduceIte, reduceCtorEq, Nat.reduceEqDiff, Nat.reduceAdd, Nat.reduceLT, ↓us_sl1Turn, r_sl1Turn, hltI]
    refine m_b2s ho.sq ?_
    simp only [↓vsd, vsn, gW, qd, qv, ev, pick, argE, zipE, ne_eq, eq_self, forall_const, implies_true, if_true, if_false, reduceIte, reduceCtorEq, Nat.reduceEqDiff, Nat.reduceAdd, Nat.reduceLT, ↓us_sl1Turn, r_sl1Turn]
    exact ⟨hx, by rw [turn_unique ha hl hget]⟩
end Go.Proofs.YthopbkemkfjebaaGreat
