/-
  Products, inverses, powers and rounds of rows, as program and reference compute them.
  Conditions: none.
-/
import Derived.Test.YthopbkemkfjebaaKA10
import Derived.Test.YthopbkemkfjebaaKD2
set_option linter.unusedSimpArgs false
set_option linter.unusedVariables false
set_option linter.defProp false
namespace Go.Proofs.Ythopbkemkfjebaa
open Go Go.RowKit
section
variable (P : Program) (k : KT) (e : Env) (w : World)
abbrev b111_1 : X := (.reg [0, 3, 9, 10] (.c (.q 13 [] (.mv (.t 3))) (.c (.q 14 [] (.mv (.t 0))) (.c (.q 15 [] (.mv (.t 4))) (.c (.q 16 [] (.idx (.t 14) (.t 15))) (.c (.q 17 [] (.bin .sub (.t 16) (.c (.int .u8 49)))) (.c (.q 18 [] (.mv (.t 4))) (.c (.q 19 [] (.bin .add (.c (.int .i64 49)) (.t 18))) (.c (.q 20 [] (.cvi .u8 (.t 19))) (.c (.q 21 [] (.ia 1 (.t 13) (.t 17))) (.c (.e none [] (.st 1 (.t 21) (.t 20))) .nil)))))))))))
def t111_1 := b111_1
theorem u111_1 : vcK P t111_1 k e w = vcK P b111_1 k e w := rfl
abbrev b111_2 : X := (.reg [0, 3, 9, 10] (.c (.q 22 [] (.bin .add (.t 10) (.c (.int .i64 1)))) (.c (.q 10 [] (.mv (.t 22))) .nil)))
def t111_2 := b111_2
theorem u111_2 : vcK P t111_2 k e w = vcK P b111_2 k e w := rfl
abbrev b111_3 : X := (.seq (.blk 1 (.seq (.reg [0, 3, 4, 9, 10] (.c (.q 12 [] (.mv (.t 10))) (.c (.q 4 [] (.mv (.t 12))) .nil))) t111_1)) t111_2)
def t111_3 := b111_3
theorem u111_3 : vcK P t111_3 k e w = vcK P b111_3 k e w := rfl
abbrev b111_4 : X := (.seq (.cond (.t 11) .skip (.exit 0)) t111_3)
def t111_4 := b111_4
theorem u111_4 : vcK P t111_4 k e w = vcK P b111_4 k e w := rfl
abbrev b111_5 : X := (.seq (.reg [0, 3, 9, 10, 11] (.c (.q 11 [] (.bin .lss (.t 10) (.t 9))) .nil)) t111_4)
def t111_5 := b111_5
theorem u111_5 : vcK P t111_5 k e w = vcK P b111_5 k e w := rfl
abbrev b111_6 : X := (.blk 0 (.loop [10] [0, 3, 9] t111_5))
def t111_6 := b111_6
theorem u111_6 : vcK P t111_6 k e w = vcK P b111_6 k e w := rfl
abbrev b111_7 : X := (.seq (.reg [2] (.c (.q 23 [] (.mv (.t 3))) (.c (.e (some 24) [] (.b2s (.t 23))) (.c (.q 2 [] (.mv (.t 24))) .nil)))) .ret)
def t111_7 := b111_7
theorem u111_7 : vcK P t111_7 k e w = vcK P b111_7 k e w := rfl
abbrev b111_8 : X := (.seq (.seq (.reg [0, 3, 9, 10] (.c (.q 8 [] (.mv (.t 3))) (.c (.q 9 [] (.lens (.t 8))) (.c (.q 10 [] (.mv (.c (.int .i64 0)))) .nil)))) t111_6) t111_7)
def t111_8 := b111_8
theorem u111_8 : vcK P t111_8 k e w = vcK P b111_8 k e w := rfl
abbrev b111_9 : X := (.seq (.reg [0, 3] (.c (.q 5 [] (.mv (.t 0))) (.c (.q 6 [] (.len (.t 5))) (.c (.e (some 7) [] (.msl 22 5 1 1 [(.int .u8 0)] (.t 6) (.t 6))) (.c (.q 3 [] (.mv (.t 7))) .nil))))) t111_8)
def t111_9 := b111_9
theorem u111_9 : vcK P t111_9 k e w = vcK P b111_9 k e w := rfl
abbrev b111_0 : X := (.seq (.reg [0] (.c (.q 2 [] (.mv (.s []))) .nil)) t111_9)
def x_iturned := b111_0
theorem u111_0 : vcK P x_iturned k e w = vcK P b111_0 k e w := rfl
def r_iturned : List XO := [(.mv (.t 2))]
theorem c_iturned : convF Try.prog [54, 55, 58, 69, 70, 71, 72, 73, 84, 89, 94, 95, 113, 114, 115, 130, 134, 143, 146, 161] Try.f111 [([0], []), ([0, 3], []), ([0, 3, 9, 10], []), ([10], [0, 3, 9]), ([0, 3, 9, 10, 11], []), ([0, 3, 4, 9, 10], []), ([0, 3, 9, 10], []), ([0, 3, 9, 10], []), ([2], [])] = some (x_iturned, r_iturned) := by kernel_rfl
def us_iturned :=  (aI (aI (aI @u111_0 @u111_1) (aI @u111_2 (aI @u111_3 @u111_4))) (aI (aI @u111_5 @u111_6) (aI @u111_7 (aI @u111_8 @u111_9))))
abbrev b103_1 : X := (.cond (.t 10) .skip (.exit 0))
def t103_1 := b103_1
theorem u103_1 : vcK P t103_1 k e w = vcK P b103_1 k e w := rfl
abbrev b103_2 : X := (.reg [0, 3, 4] (.c (.q 11 [] (.mv (.t 4))) (.c (.q 12 [] (.bin .add (.t 11) (.c (.int .i64 1)))) (.c (.q 4 [] (.mv (.t 12))) .nil))))
def t103_2 := b103_2
theorem u103_2 : vcK P t103_2 k e w = vcK P b103_2 k e w := rfl
abbrev b103_3 : X := (.seq (.blk 1 (.reg [0, 3, 4] (.c (.q 13 [] (.mv (.t 3))) (.c (.q 14 [] (.mv (.t 0))) (.c (.q 15 [] (.mv (.t 4))) (.c (.e (some 16) [] (.call false 62 [(.t 14), (.t 15)])) (.c (.q 17 [] (.bin .sub (.t 16) (.c (.int .i64 1)))) (.c (.q 18 [] (.mv (.t 4))) (.c (.q 19 [] (.bin .add (.c (.int .i64 48)) (.t 18))) (.c (.q 20 [] (.cvi .u8 (.t 19))) (.c (.q 21 [] (.ia 1 (.t 13) (.t 17))) (.c (.e none [] (.st 1 (.t 21) (.t 20))) .nil)))))))))))) t103_2)
def t103_3 := b103_3
theorem u103_3 : vcK P t103_3 k e w = vcK P b103_3 k e w := rfl
abbrev b103_4 : X := (.seq (.seq (.reg [0, 3, 4, 10] (.c (.q 7 [] (.mv (.t 4))) (.c (.q 8 [] (.mv (.t 0))) (.c (.q 9 [] (.len (.t 8))) (.c (.q 10 [] (.bin .leq (.t 7) (.t 9))) .nil))))) t103_1) t103_3)
def t103_4 := b103_4
theorem u103_4 : vcK P t103_4 k e w = vcK P b103_4 k e w := rfl
abbrev b103_5 : X := (.blk 0 (.loop [4] [0, 3] t103_4))
def t103_5 := b103_5
theorem u103_5 : vcK P t103_5 k e w = vcK P b103_5 k e w := rfl
abbrev b103_6 : X := (.seq (.reg [2] (.c (.q 22 [] (.mv (.t 3))) (.c (.e (some 23) [] (.b2s (.t 22))) (.c (.q 2 [] (.mv (.t 23))) .nil)))) .ret)
def t103_6 := b103_6
theorem u103_6 : vcK P t103_6 k e w = vcK P b103_6 k e w := rfl
abbrev b103_7 : X := (.seq (.seq (.reg [0, 3, 4] (.c (.q 4 [] (.mv (.c (.int .i64 1)))) .nil)) t103_5) t103_6)
def t103_7 := b103_7
theorem u103_7 : vcK P t103_7 k e w = vcK P b103_7 k e w := rfl
abbrev b103_8 : X := (.seq (.reg [0, 3] (.c (.q 5 [] (.mv (.t 0))) (.c (.e (some 6) [] (.s2b 5 (.t 5))) (.c (.q 3 [] (.mv (.t 6))) .nil)))) t103_7)
def t103_8 := b103_8
theorem u103_8 : vcK P t103_8 k e w = vcK P b103_8 k e w := rfl
abbrev b103_0 : X := (.seq (.reg [0] (.c (.q 2 [] (.mv (.s []))) .nil)) t103_8)
def x_sl1Turn := b103_0
theorem u103_0 : vcK P x_sl1Turn k e w = vcK P b103_0 k e w := rfl
def r_sl1Turn : List XO := [(.mv (.t 2))]
theorem c_sl1Turn : convF Try.prog [54, 55, 58, 69, 70, 71, 72, 73, 84, 89, 94, 95, 113, 114, 115, 130, 134, 143, 146, 161] Try.f103 [([0], []), ([0, 3], []), ([0, 3, 4], []), ([4], [0, 3]), ([0, 3, 4, 10], []), ([0, 3, 4], []), ([0, 3, 4], []), ([2], [])] = some (x_sl1Turn, r_sl1Turn) := by kernel_rfl
def us_sl1Turn :=  (aI (aI (aI @u103_0 @u103_1) (aI @u103_2 @u103_3)) (aI (aI @u103_4 @u103_5) (aI @u103_6 (aI @u103_7 @u103_8))))
end
theorem iturned_ok (a : List UInt8) (ha : IsRow a) (w : World) : Fn 111 [S a] w (fun r _ => r = S (turnL a)) := by
  (refine callsV_of mix Try.func111 c_iturned ?_; simp only [↓vsd, vsn, gW, qd, qv, ev, pick, argE, zipE, ne_eq, eq_self, forall_const, implies_true, if_true, if_false, reduceIte, reduceCtorEq, Nat.reduceEqDiff, Nat.reduceAdd, Nat.reduceLT, ↓us_iturned, r_iturned])
  have h8 := ha.1
  refine m_msl (f := fU) (B := w.heap.size) (0 : UInt8) fU_len rfl (by omega) (by decide) (Nat.le_refl _) ?_
  rintro vo w1 ho1 _ hx1
  simp only [↓vsd, vsn, gW, qd, qv, ev, pick, argE, zipE, ne_eq, eq_self, forall_const, implies_true, if_true, if_false, reduceIte, reduceCtorEq, Nat.reduceEqDiff, Nat.reduceAdd, Nat.reduceLT, ↓us_iturned, r_iturned, ho1.sq.facts]
  rw [List.length_replicate]
  refine m_upto a.length (fun k vs w' => ∃ l : List UInt8, vs = [.int .i64 k] ∧ l.length = a.length ∧ (∀ j < k, l.getD (bell a j) 0 = UInt8.ofNat (49 + j)) ∧ Own fU 1 5 w.heap.size w' vo l ∧ Ext w w') ⟨_, rfl, List.length_replicate, fun j hj => absurd hj (Nat.not_lt_zero j), ho1, hx1⟩ ?_
  rintro k vs w2 hk ⟨l, rfl, hl, hget, ho, hx⟩
  by_cases hlt : k < a.length
  · have hltI : (k : Int) < a.length := by omega
    have hltJ : ¬ (a.length : Int) ≤ k := by omega
    have hlow := ha.low hlt
    have hhigh := ha.high hlt
    have hbe : ((a.getD k 0).toNat : Int) - 49 = (bell a k : Nat) := by unfold bell; omega
    have hbl := ha.bell_lt hlt
    simp only [↓vsd, vsn, gW, qd, qv, ev, pick, argE, zipE, ne_eq, eq_self, forall_const, implies_true, if_true, if_false, reduceIte, reduceCtorEq, Nat.reduceEqDiff, Nat.reduceAdd, Nat.reduceLT, ↓us_iturned, r_iturned, hltI, hltJ, ho.sq.facts, hl, hbe]
    refine ⟨by omega, inR_u8 (by omega), inR_i64 (by omega), inR_u8 (by omega), by omega, m_set1 (bell a k) (UInt8.ofNat (49 + k)) ho rfl (by omega) (by simp [fU, UInt8.toNat_ofNat', cells_int]; omega) fU_one ?_⟩
    rintro w4 ho4 hg4 hs4
    simp only [↓vsd, vsn, gW, qd, qv, ev, pick, argE, zipE, ne_eq, eq_self, forall_const, implies_true, if_true, if_false, reduceIte, reduceCtorEq, Nat.reduceEqDiff, Nat.reduceAdd, Nat.reduceLT, ↓us_iturned, r_iturned]
    refine ⟨inR_i64 (by omega), UpTo.next hlt ⟨_, rfl, by rw [List.length_set]; exact hl, fun j hj => ?_, ho4, ho.grown (hx) (Nat.le_refl _) hg4⟩⟩
    rw [getD_set]
    by_cases hjk : j = k
    · subst hjk
      rw [if_pos ⟨rfl, by omega⟩]
    · rw [if_neg (fun h => hjk (ha.inj' (by omega) hlt h.1.symm))]
      exact hget j (by omega)
  · obtain rfl : k = a.length := by omega
    have hltI : ¬ (a.length : Int) < a.length := by omega
    simp only [↓vsd, vsn, gW, qd, qv, ev, pick, argE, zipE, ne_eq, eq_self, forall_const, implies_true, if_true, if_false, reduceIte, reduceCtorEq, Nat.reduceEqDiff, Nat.reduceAdd, Nat.reduceLT, ↓us_iturned, r_iturned, hltI]
    refine m_b2s ho.sq ?_
    simp only [↓vsd, vsn, gW, qd, qv, ev, pick, argE, zipE, ne_eq, eq_self, forall_const, implies_true, if_true, if_false, reduceIte, reduceCtorEq, Nat.reduceEqDiff, Nat.reduceAdd, Nat.reduceLT, ↓us_iturned, r_iturned]
    exact ⟨hx, by rw [turn_unique ha hl hget]⟩
theorem sl1Turn_ok (a : List UInt8) (ha : IsRow a) (w : World) : Fn 103 [S a] w (fun r _ => r = S (turnL a)) := by
  (refine callsV_of mix Try.func103 c_sl1Turn ?_; simp only [↓vsd, vsn, gW, qd, qv, ev, pick, argE, zipE, ne_eq, eq_self, forall_const, implies_true, if_true, if_false, reduceIte, reduceCtorEq, Nat.reduceEqDiff, Nat.reduceAdd, Nat.reduceLT, ↓us_sl1Turn, r_sl1Turn])
  have h8 := ha.1
  refine m_s2bU w.heap.size (by omega) (Nat.le_refl _) ?_
  rintro vo w1 ho1 hx1 _
  simp only [↓vsd, vsn, gW, qd, qv, ev, pick, argE, zipE, ne_eq, eq_self, forall_const, implies_true, if_true, if_false, reduceIte, reduceCtorEq, Nat.reduceEqDiff, Nat.reduceAdd, Nat.reduceLT, ↓us_sl1Turn, r_sl1Turn]
  refine m_upto a.length (fun k vs w' => ∃ l : List UInt8, vs = [.int .i64 (k + 1 : Nat)] ∧ l.length = a.length ∧ (∀ j < k, l.getD (bell a j) 0 = UInt8.ofNat (49 + j)) ∧ Own fU 1 5 w.heap.size w' vo l ∧ Ext w w') ⟨_, rfl, rfl, fun j hj => absurd hj (Nat.not_lt_zero j), ho1, hx1⟩ ?_
  rintro k vs w2 hk ⟨l, rfl, hl, hget, ho, hx⟩
  by_cases hlt : k < a.length
  · have hltI : ((k + 1 : Nat) : Int) ≤ a.length := by omega
    have hltJ : ¬ (a.length : Int) < ((k + 1 : Nat) : Int) := by omega
    have hlow := ha.low hlt
    have hhigh := ha.high hlt
    have hbl := ha.bell_lt hlt
    simp only [↓vsd, vsn, gW, qd, qv, ev, pick, argE, zipE, ne_eq, eq_self, forall_const, implies_true, if_true, if_false, reduceIte, reduceCtorEq, Nat.reduceEqDiff, Nat.reduceAdd, Nat.reduceLT, ↓us_sl1Turn, r_sl1Turn, hltI, hltJ]
    refine m_call (sl1At_ok a (k + 1) (by omega) (by rw [Nat.add_sub_cancel]; omega) (by omega) _) ?_
    rintro _ w3 hx3 rfl
    rw [Nat.add_sub_cancel]
    have hbe : ((a.getD k 0).toNat : Int) - 48 - 1 = (bell a k : Nat) := by unfold bell; omega
    have ho3 := ho.ext hx3
    have e49 : (48 : Int) + ((k + 1 : Nat) : Int) = 49 + (k : Nat) := by omega
    simp only [↓vsd, vsn, gW, qd, qv, ev, pick, argE, zipE, ne_eq, eq_self, forall_const, implies_true, if_true, if_false, reduceIte, reduceCtorEq, Nat.reduceEqDiff, Nat.reduceAdd, Nat.reduceLT, ↓us_sl1Turn, r_sl1Turn, hbe, ho3.sq.facts, hl, e49]
    refine ⟨inR_i64 (by omega), inR_i64 (by omega), inR_u8 (by omega), by omega, m_set1 (bell a k) (UInt8.ofNat (49 + k)) ho3 rfl (by omega) (by simp [fU, UInt8.toNat_ofNat', cells_int]; omega) fU_one ?_⟩
    rintro w4 ho4 hg4 hs4
    simp only [↓vsd, vsn, gW, qd, qv, ev, pick, argE, zipE, ne_eq, eq_self, forall_const, implies_true, if_true, if_false, reduceIte, reduceCtorEq, Nat.reduceEqDiff, Nat.reduceAdd, Nat.reduceLT, ↓us_sl1Turn, r_sl1Turn]
    refine ⟨inR_i64 (by omega), UpTo.next hlt ⟨_, rfl, by rw [List.length_set]; exact hl, fun j hj => ?_, ho4, ho3.grown (hx.trans hx3) (Nat.le_refl _) hg4⟩⟩
    rw [getD_set]
    by_cases hjk : j = k
    · subst hjk
      rw [if_pos ⟨rfl, by omega⟩]
    · rw [if_neg (fun h => hjk (ha.inj' (by omega) hlt h.1.symm))]
      exact hget j (by omega)
  · obtain rfl : k = a.length := by omega
    have hltI : ¬ ((a.length + 1 : Nat) : Int) ≤ a.length := by omega
    simp only [↓vsd, vsn, gW, qd, qv, ev, pick, argE, zipE, ne_eq, eq_self, forall_const, implies_true, if_true, if_false, reduceIte, reduceCtorEq, Nat.reduceEqDiff, Nat.reduceAdd, Nat.reduceLT, ↓us_sl1Turn, r_sl1Turn, hltI]
    refine m_b2s ho.sq ?_
    simp only [↓vsd, vsn, gW, qd, qv, ev, pick, argE, zipE, ne_eq, eq_self, forall_const, implies_true, if_true, if_false, reduceIte, reduceCtorEq, Nat.reduceEqDiff, Nat.reduceAdd, Nat.reduceLT, ↓us_sl1Turn, r_sl1Turn]
    exact ⟨hx, by rw [turn_unique ha hl hget]⟩
end Go.Proofs.Ythopbkemkfjebaa
