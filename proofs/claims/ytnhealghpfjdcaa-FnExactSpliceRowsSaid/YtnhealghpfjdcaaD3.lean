/-
  Products, inverses, powers and rounds of rows, as program and reference compute them.
  Conditions: none.
-/
import Derived.Test.YtnhealghpfjdcaaA10
import Derived.Test.YtnhealghpfjdcaaD2
set_option linter.unusedSimpArgs false
set_option linter.unusedVariables false
set_option linter.defProp false
namespace Go.Proofs.Ytnhealghpfjdcaa
open Go Go.RowKit
section
variable (P : Program) (k : KT) (e : Env) (w : World)
abbrev b130_1 : X := (.seq (.reg [4] (.c (.q 5 [] (.mv (.t 0))) (.c (.e (some 6) [] (.call false 120 [(.t 5)])) (.c (.q 7 [] (.mv (.t 6))) (.c (.q 8 [(7, true)] (.mv (.t 1))) (.c (.e (some 9) [(7, true)] (.call false 120 [(.t 8)])) (.c (.q 10 [] (.pick (.t 7) (.t 9) (.c (.bool false)))) (.c (.q 11 [] (.mv (.t 10))) (.c (.q 12 [(11, true)] (.mv (.t 0))) (.c (.q 13 [(11, true)] (.len (.t 12))) (.c (.q 14 [(11, true)] (.mv (.t 1))) (.c (.q 15 [(11, true)] (.len (.t 14))) (.c (.q 16 [(11, true)] (.bin .eql (.t 13) (.t 15))) (.c (.q 17 [] (.pick (.t 11) (.t 16) (.c (.bool false)))) (.c (.q 4 [] (.mv (.t 17))) .nil))))))))))))))) .ret)
def t130_1 := b130_1
theorem u130_1 : vcK P t130_1 k e w = vcK P b130_1 k e w := rfl
abbrev b130_0 : X := (.seq (.reg [0, 1] (.c (.q 4 [] (.mv (.c (.bool false)))) .nil)) t130_1)
def x_sl1Two := b130_0
theorem u130_0 : vcK P x_sl1Two k e w = vcK P b130_0 k e w := rfl
def r_sl1Two : List XO := [(.mv (.t 4))]
theorem c_sl1Two : convF Try.prog [89, 116, 117, 121, 143, 161, 162, 163, 166, 168, 234] Try.f130 [([0, 1], []), ([4], [])] = some (x_sl1Two, r_sl1Two) := by kernel_rfl
def us_sl1Two := aI @u130_0 @u130_1
abbrev b102_1 : X := (.reg [0, 3, 9, 10] (.c (.q 13 [] (.mv (.t 3))) (.c (.q 14 [] (.mv (.t 0))) (.c (.q 15 [] (.mv (.t 4))) (.c (.q 16 [] (.idx (.t 14) (.t 15))) (.c (.q 17 [] (.bin .sub (.t 16) (.c (.int .u8 49)))) (.c (.q 18 [] (.mv (.t 4))) (.c (.q 19 [] (.bin .add (.c (.int .i64 49)) (.t 18))) (.c (.q 20 [] (.cvi .u8 (.t 19))) (.c (.q 21 [] (.ia 1 (.t 13) (.t 17))) (.c (.e none [] (.st 1 (.t 21) (.t 20))) .nil)))))))))))
def t102_1 := b102_1
theorem u102_1 : vcK P t102_1 k e w = vcK P b102_1 k e w := rfl
abbrev b102_2 : X := (.reg [0, 3, 9, 10] (.c (.q 22 [] (.bin .add (.t 10) (.c (.int .i64 1)))) (.c (.q 10 [] (.mv (.t 22))) .nil)))
def t102_2 := b102_2
theorem u102_2 : vcK P t102_2 k e w = vcK P b102_2 k e w := rfl
abbrev b102_3 : X := (.seq (.blk 1 (.seq (.reg [0, 3, 4, 9, 10] (.c (.q 12 [] (.mv (.t 10))) (.c (.q 4 [] (.mv (.t 12))) .nil))) t102_1)) t102_2)
def t102_3 := b102_3
theorem u102_3 : vcK P t102_3 k e w = vcK P b102_3 k e w := rfl
abbrev b102_4 : X := (.seq (.cond (.t 11) .skip (.exit 0)) t102_3)
def t102_4 := b102_4
theorem u102_4 : vcK P t102_4 k e w = vcK P b102_4 k e w := rfl
abbrev b102_5 : X := (.seq (.reg [0, 3, 9, 10, 11] (.c (.q 11 [] (.bin .lss (.t 10) (.t 9))) .nil)) t102_4)
def t102_5 := b102_5
theorem u102_5 : vcK P t102_5 k e w = vcK P b102_5 k e w := rfl
abbrev b102_6 : X := (.blk 0 (.loop [10] [0, 3, 9] t102_5))
def t102_6 := b102_6
theorem u102_6 : vcK P t102_6 k e w = vcK P b102_6 k e w := rfl
abbrev b102_7 : X := (.seq (.reg [2] (.c (.q 23 [] (.mv (.t 3))) (.c (.e (some 24) [] (.b2s (.t 23))) (.c (.q 2 [] (.mv (.t 24))) .nil)))) .ret)
def t102_7 := b102_7
theorem u102_7 : vcK P t102_7 k e w = vcK P b102_7 k e w := rfl
abbrev b102_8 : X := (.seq (.seq (.reg [0, 3, 9, 10] (.c (.q 8 [] (.mv (.t 3))) (.c (.q 9 [] (.lens (.t 8))) (.c (.q 10 [] (.mv (.c (.int .i64 0)))) .nil)))) t102_6) t102_7)
def t102_8 := b102_8
theorem u102_8 : vcK P t102_8 k e w = vcK P b102_8 k e w := rfl
abbrev b102_9 : X := (.seq (.reg [0, 3] (.c (.q 5 [] (.mv (.t 0))) (.c (.q 6 [] (.len (.t 5))) (.c (.e (some 7) [] (.msl 63 5 1 1 [(.int .u8 0)] (.t 6) (.t 6))) (.c (.q 3 [] (.mv (.t 7))) .nil))))) t102_8)
def t102_9 := b102_9
theorem u102_9 : vcK P t102_9 k e w = vcK P b102_9 k e w := rfl
abbrev b102_0 : X := (.seq (.reg [0] (.c (.q 2 [] (.mv (.s []))) .nil)) t102_9)
def x_iturned := b102_0
theorem u102_0 : vcK P x_iturned k e w = vcK P b102_0 k e w := rfl
def r_iturned : List XO := [(.mv (.t 2))]
theorem c_iturned : convF Try.prog [89, 116, 117, 121, 143, 161, 162, 163, 166, 168, 234] Try.f102 [([0], []), ([0, 3], []), ([0, 3, 9, 10], []), ([10], [0, 3, 9]), ([0, 3, 9, 10, 11], []), ([0, 3, 4, 9, 10], []), ([0, 3, 9, 10], []), ([0, 3, 9, 10], []), ([2], [])] = some (x_iturned, r_iturned) := by kernel_rfl
def us_iturned := aI @u102_0 (aI @u102_1 (aI @u102_2 (aI @u102_3 (aI @u102_4 (aI @u102_5 (aI @u102_6 (aI @u102_7 (aI @u102_8 @u102_9))))))))
abbrev b96_1 : X := (.cond (.t 10) .skip (.exit 0))
def t96_1 := b96_1
theorem u96_1 : vcK P t96_1 k e w = vcK P b96_1 k e w := rfl
abbrev b96_2 : X := (.reg [0, 3, 4] (.c (.q 11 [] (.mv (.t 4))) (.c (.q 12 [] (.bin .add (.t 11) (.c (.int .i64 1)))) (.c (.q 4 [] (.mv (.t 12))) .nil))))
def t96_2 := b96_2
theorem u96_2 : vcK P t96_2 k e w = vcK P b96_2 k e w := rfl
abbrev b96_3 : X := (.seq (.blk 1 (.reg [0, 3, 4] (.c (.q 13 [] (.mv (.t 3))) (.c (.q 14 [] (.mv (.t 0))) (.c (.q 15 [] (.mv (.t 4))) (.c (.e (some 16) [] (.call false 138 [(.t 14), (.t 15)])) (.c (.q 17 [] (.bin .sub (.t 16) (.c (.int .i64 1)))) (.c (.q 18 [] (.mv (.t 4))) (.c (.q 19 [] (.bin .add (.c (.int .i64 48)) (.t 18))) (.c (.q 20 [] (.cvi .u8 (.t 19))) (.c (.q 21 [] (.ia 1 (.t 13) (.t 17))) (.c (.e none [] (.st 1 (.t 21) (.t 20))) .nil)))))))))))) t96_2)
def t96_3 := b96_3
theorem u96_3 : vcK P t96_3 k e w = vcK P b96_3 k e w := rfl
abbrev b96_4 : X := (.seq (.seq (.reg [0, 3, 4, 10] (.c (.q 7 [] (.mv (.t 4))) (.c (.q 8 [] (.mv (.t 0))) (.c (.q 9 [] (.len (.t 8))) (.c (.q 10 [] (.bin .leq (.t 7) (.t 9))) .nil))))) t96_1) t96_3)
def t96_4 := b96_4
theorem u96_4 : vcK P t96_4 k e w = vcK P b96_4 k e w := rfl
abbrev b96_5 : X := (.blk 0 (.loop [4] [0, 3] t96_4))
def t96_5 := b96_5
theorem u96_5 : vcK P t96_5 k e w = vcK P b96_5 k e w := rfl
abbrev b96_6 : X := (.seq (.reg [2] (.c (.q 22 [] (.mv (.t 3))) (.c (.e (some 23) [] (.b2s (.t 22))) (.c (.q 2 [] (.mv (.t 23))) .nil)))) .ret)
def t96_6 := b96_6
theorem u96_6 : vcK P t96_6 k e w = vcK P b96_6 k e w := rfl
abbrev b96_7 : X := (.seq (.seq (.reg [0, 3, 4] (.c (.q 4 [] (.mv (.c (.int .i64 1)))) .nil)) t96_5) t96_6)
def t96_7 := b96_7
theorem u96_7 : vcK P t96_7 k e w = vcK P b96_7 k e w := rfl
abbrev b96_8 : X := (.seq (.reg [0, 3] (.c (.q 5 [] (.mv (.t 0))) (.c (.e (some 6) [] (.s2b 5 (.t 5))) (.c (.q 3 [] (.mv (.t 6))) .nil)))) t96_7)
def t96_8 := b96_8
theorem u96_8 : vcK P t96_8 k e w = vcK P b96_8 k e w := rfl
abbrev b96_0 : X := (.seq (.reg [0] (.c (.q 2 [] (.mv (.s []))) .nil)) t96_8)
def x_sl1Turn := b96_0
theorem u96_0 : vcK P x_sl1Turn k e w = vcK P b96_0 k e w := rfl
def r_sl1Turn : List XO := [(.mv (.t 2))]
theorem c_sl1Turn : convF Try.prog [89, 116, 117, 121, 143, 161, 162, 163, 166, 168, 234] Try.f96 [([0], []), ([0, 3], []), ([0, 3, 4], []), ([4], [0, 3]), ([0, 3, 4, 10], []), ([0, 3, 4], []), ([0, 3, 4], []), ([2], [])] = some (x_sl1Turn, r_sl1Turn) := by kernel_rfl
def us_sl1Turn := aI @u96_0 (aI @u96_1 (aI @u96_2 (aI @u96_3 (aI @u96_4 (aI @u96_5 (aI @u96_6 (aI @u96_7 @u96_8)))))))
abbrev b51_1 : X := (.cond (.t 6) (.seq (.reg [2, 3] (.c (.q 2 [] (.mv (.s []))) (.c (.q 3 [] (.mv (.c (.bool false)))) .nil))) .ret) .skip)
def t51_1 := b51_1
theorem u51_1 : vcK P t51_1 k e w = vcK P b51_1 k e w := rfl
abbrev b51_2 : X := (.seq (.reg [2, 3] (.c (.q 7 [] (.mv (.t 0))) (.c (.e (some 8) [] (.call false 111 [(.t 7)])) (.c (.q 2 [] (.mv (.t 8))) (.c (.q 3 [] (.mv (.c (.bool true)))) .nil))))) .ret)
def t51_2 := b51_2
theorem u51_2 : vcK P t51_2 k e w = vcK P b51_2 k e w := rfl
abbrev b51_3 : X := (.seq (.seq (.reg [0, 6] (.c (.q 4 [] (.mv (.t 0))) (.c (.e (some 5) [] (.call false 108 [(.t 4)])) (.c (.q 6 [] (.not (.t 5))) .nil)))) t51_1) t51_2)
def t51_3 := b51_3
theorem u51_3 : vcK P t51_3 k e w = vcK P b51_3 k e w := rfl
abbrev b51_0 : X := (.seq (.reg [0] (.c (.q 2 [] (.mv (.s []))) (.c (.q 3 [] (.mv (.c (.bool false)))) .nil))) t51_3)
def x_iRoundsOf := b51_0
theorem u51_0 : vcK P x_iRoundsOf k e w = vcK P b51_0 k e w := rfl
def r_iRoundsOf : List XO := [(.mv (.t 2)), (.mv (.t 3))]
theorem c_iRoundsOf : convF Try.prog [89, 116, 117, 121, 143, 161, 162, 163, 166, 168, 234] Try.f51 [([0], []), ([0, 6], []), ([2, 3], []), ([2, 3], [])] = some (x_iRoundsOf, r_iRoundsOf) := by kernel_rfl
def us_iRoundsOf := aI @u51_0 (aI @u51_1 (aI @u51_2 @u51_3))
abbrev b45_1 : X := (.seq (.reg [4] (.c (.q 5 [] (.mv (.t 0))) (.c (.q 6 [] (.lens (.t 5))) (.c (.q 7 [] (.bin .gtr (.t 6) (.c (.int .i64 1048576)))) (.c (.q 8 [] (.mv (.t 7))) (.c (.q 9 [(8, false)] (.mv (.t 1))) (.c (.q 10 [(8, false)] (.lens (.t 9))) (.c (.q 11 [(8, false)] (.mv (.t 0))) (.c (.q 12 [(8, false)] (.lens (.t 11))) (.c (.q 13 [(8, false)] (.bin .sub (.c (.int .i64 1048576)) (.t 12))) (.c (.q 14 [(8, false)] (.bin .gtr (.t 10) (.t 13))) (.c (.q 15 [] (.pick (.t 8) (.c (.bool true)) (.t 14))) (.c (.q 4 [] (.mv (.t 15))) .nil))))))))))))) .ret)
def t45_1 := b45_1
theorem u45_1 : vcK P t45_1 k e w = vcK P b45_1 k e w := rfl
abbrev b45_0 : X := (.seq (.reg [0, 1] (.c (.q 4 [] (.mv (.c (.bool false)))) .nil)) t45_1)
def x_lbig := b45_0
theorem u45_0 : vcK P x_lbig k e w = vcK P b45_0 k e w := rfl
def r_lbig : List XO := [(.mv (.t 4))]
theorem c_lbig : convF Try.prog [89, 116, 117, 121, 143, 161, 162, 163, 166, 168, 234] Try.f45 [([0, 1], []), ([4], [])] = some (x_lbig, r_lbig) := by kernel_rfl
def us_lbig := aI @u45_0 @u45_1
end

def timesV (a b : List UInt8) : Value := if IsRow a ∧ IsRow b ∧ a.length = b.length then .tuple ⟨[S (timesL a b), .bool true]⟩ else .tuple ⟨[S [], .bool false]⟩
def turnRV (a : List UInt8) : Value := if IsRow a then .tuple ⟨[S (turnL a), .bool true]⟩ else .tuple ⟨[S [], .bool false]⟩
def roundsV (n : Int) : Value := if 3 ≤ n ∧ n ≤ 8 then .tuple ⟨[S (roundsL n.toNat), .bool true]⟩ else .tuple ⟨[S [], .bool false]⟩
/-- A power, of the inverse where the exponent is below 0. -/
def powZ (a : List UInt8) (k : Int) : List UInt8 := if k < 0 then powL (turnL a) (-k).toNat else powL a k.toNat
def powV (a : List UInt8) (k : Int) : Value := if IsRow a ∧ -1000 ≤ k ∧ k ≤ 1000 then .tuple ⟨[S (powZ a k), .bool true]⟩ else .tuple ⟨[S [], .bool false]⟩
theorem sl1Two_ok (a b : List UInt8) (w : World) : Fn 130 [S a, S b] w (fun r _ => r = .bool (decide (IsRow a ∧ IsRow b ∧ a.length = b.length))) := by
  (refine callsV_of mix Try.func130 c_sl1Two ?_; simp only [↓vsd, vsn, gW, qd, qv, ev, pick, argE, zipE, ne_eq, eq_self, forall_const, implies_true, if_true, if_false, reduceIte, reduceCtorEq, Nat.reduceEqDiff, Nat.reduceAdd, Nat.reduceLT, ↓us_sl1Two, r_sl1Two])
  refine m_call (sl1Row_ok _ _) ?_
  rintro _ w1 hx1 rfl
  simp only [↓vsd, vsn, gW, qd, qv, ev, pick, argE, zipE, ne_eq, eq_self, forall_const, implies_true, if_true, if_false, reduceIte, reduceCtorEq, Nat.reduceEqDiff, Nat.reduceAdd, Nat.reduceLT, ↓us_sl1Two, r_sl1Two]
  refine ⟨fun ha => m_call (sl1Row_ok _ _) ?_, fun ha => ⟨hx1, by simp [ha]⟩⟩
  rintro _ w2 hx2 rfl
  simp only [↓vsd, vsn, gW, qd, qv, ev, pick, argE, zipE, ne_eq, eq_self, forall_const, implies_true, if_true, if_false, reduceIte, reduceCtorEq, Nat.reduceEqDiff, Nat.reduceAdd, Nat.reduceLT, ↓us_sl1Two, r_sl1Two]
  refine ⟨hx1.trans hx2, ?_⟩
  simp only [← Bool.decide_and]
  congr 1
  exact propext ⟨fun h => ⟨ha, h.1.2, by omega⟩, fun h => ⟨⟨ha, h.2.1⟩, by have := h.2.2; omega⟩⟩
theorem iturned_ok (a : List UInt8) (ha : IsRow a) (w : World) : Fn 102 [S a] w (fun r _ => r = S (turnL a)) := by
  (refine callsV_of mix Try.func102 c_iturned ?_; simp only [↓vsd, vsn, gW, qd, qv, ev, pick, argE, zipE, ne_eq, eq_self, forall_const, implies_true, if_true, if_false, reduceIte, reduceCtorEq, Nat.reduceEqDiff, Nat.reduceAdd, Nat.reduceLT, ↓us_iturned, r_iturned])
  have h8 := ha.1
  refine m_msl (f := fU) (B := w.heap.size) (0 : UInt8) fU_len rfl (by omega) (by decide) (Nat.le_refl _) ?_
  rintro vo w1 ho1 _ hx1
  simp only [↓vsd, vsn, gW, qd, qv, ev, pick, argE, zipE, ne_eq, eq_self, forall_const, implies_true, if_true, if_false, reduceIte, reduceCtorEq, Nat.reduceEqDiff, Nat.reduceAdd, Nat.reduceLT, ↓us_iturned, r_iturned, ho1.sq.facts]
  rw [List.length_replicate]
  refine m_upto a.length (fun k vs w' => ∃ l : List UInt8, vs = [.int .i64 k] ∧ l.length = a.length ∧ (∀ j < k, l.getD (bell a j) 0 = UInt8.ofNat (49 + j)) ∧ Own fU 1 5 w.heap.size w' vo l ∧ Ext w w') ⟨_, rfl, List.length_replicate, fun j hj => absurd hj (Nat.not_lt_zero j), ho1, hx1⟩ ?_
  rintro k vs w2 hk ⟨l, rfl, hl, hget, ho, hx⟩
  by_cases hlt : k < a.length
  · have hltI : (k : Int) < a.length := by omega
    have hltJ : ¬ (a.length : Int) ≤ k := by omega
    have hlow := ha.low hlt
    have hhigh := ha.high hlt
    have hbe : ((a.getD k 0).toNat : Int) - 49 = (bell a k : Nat) := by unfold bell; omega
    have hbl := ha.bell_lt hlt
    simp only [↓vsd, vsn, gW, qd, qv, ev, pick, argE, zipE, ne_eq, eq_self, forall_const, implies_true, if_true, if_false, reduceIte, reduceCtorEq, Nat.reduceEqDiff, Nat.reduceAdd, Nat.reduceLT, ↓us_iturned, r_iturned, hltI, hltJ, ho.sq.facts, hl, hbe]
    refine ⟨by omega, inR_u8 (by omega), inR_i64 (by omega), inR_u8 (by omega), by omega, m_set1 (bell a k) (UInt8.ofNat (49 + k)) ho rfl (by omega) (by simp [fU, UInt8.toNat_ofNat', cells_int]; omega) fU_one ?_⟩
    rintro w4 ho4 hg4 hs4
    simp only [↓vsd, vsn, gW, qd, qv, ev, pick, argE, zipE, ne_eq, eq_self, forall_const, implies_true, if_true, if_false, reduceIte, reduceCtorEq, Nat.reduceEqDiff, Nat.reduceAdd, Nat.reduceLT, ↓us_iturned, r_iturned]
    refine ⟨inR_i64 (by omega), UpTo.next hlt ⟨_, rfl, by rw [List.length_set]; exact hl, fun j hj => ?_, ho4, ho.grown (hx) (Nat.le_refl _) hg4⟩⟩
    rw [getD_set]
    by_cases hjk : j = k
    · subst hjk
      rw [if_pos ⟨rfl, by omega⟩]
    · rw [if_neg (fun h => hjk (ha.inj' (by omega) hlt h.1.symm))]
      exact hget j (by omega)
  · obtain rfl : k = a.length := by omega
    have hltI : ¬ (a.length : Int) < a.length := by omega
    simp only [↓vsd, vsn, gW, qd, qv, ev, pick, argE, zipE, ne_eq, eq_self, forall_const, implies_true, if_true, if_false, reduceIte, reduceCtorEq, Nat.reduceEqDiff, Nat.reduceAdd, Nat.reduceLT, ↓us_iturned, r_iturned, hltI]
    refine m_b2s ho.sq ?_
    simp only [↓vsd, vsn, gW, qd, qv, ev, pick, argE, zipE, ne_eq, eq_self, forall_const, implies_true, if_true, if_false, reduceIte, reduceCtorEq, Nat.reduceEqDiff, Nat.reduceAdd, Nat.reduceLT, ↓us_iturned, r_iturned]
    exact ⟨hx, by rw [turn_unique ha hl hget]⟩
theorem sl1Turn_ok (a : List UInt8) (ha : IsRow a) (w : World) : Fn 96 [S a] w (fun r _ => r = S (turnL a)) := by
  (refine callsV_of mix Try.func96 c_sl1Turn ?_; simp only [↓vsd, vsn, gW, qd, qv, ev, pick, argE, zipE, ne_eq, eq_self, forall_const, implies_true, if_true, if_false, reduceIte, reduceCtorEq, Nat.reduceEqDiff, Nat.reduceAdd, Nat.reduceLT, ↓us_sl1Turn, r_sl1Turn])
  have h8 := ha.1
  refine m_s2bU w.heap.size (by omega) (Nat.le_refl _) ?_
  rintro vo w1 ho1 hx1 _
  simp only [↓vsd, vsn, gW, qd, qv, ev, pick, argE, zipE, ne_eq, eq_self, forall_const, implies_true, if_true, if_false, reduceIte, reduceCtorEq, Nat.reduceEqDiff, Nat.reduceAdd, Nat.reduceLT, ↓us_sl1Turn, r_sl1Turn]
  refine m_upto a.length (fun k vs w' => ∃ l : List UInt8, vs = [.int .i64 (k + 1 : Nat)] ∧ l.length = a.length ∧ (∀ j < k, l.getD (bell a j) 0 = UInt8.ofNat (49 + j)) ∧ Own fU 1 5 w.heap.size w' vo l ∧ Ext w w') ⟨_, rfl, rfl, fun j hj => absurd hj (Nat.not_lt_zero j), ho1, hx1⟩ ?_
  rintro k vs w2 hk ⟨l, rfl, hl, hget, ho, hx⟩
  by_cases hlt : k < a.length
  · have hltI : ((k + 1 : Nat) : Int) ≤ a.length := by omega
    have hltJ : ¬ (a.length : Int) < ((k + 1 : Nat) : Int) := by omega
    have hlow := ha.low hlt
    have hhigh := ha.high hlt
    have hbl := ha.bell_lt hlt
    simp only [↓vsd, vsn, gW, qd, qv, ev, pick, argE, zipE, ne_eq, eq_self, forall_const, implies_true, if_true, if_false, reduceIte, reduceCtorEq, Nat.reduceEqDiff, Nat.reduceAdd, Nat.reduceLT, ↓us_sl1Turn, r_sl1Turn, hltI, hltJ]
    refine m_call (sl1At_ok a (k + 1) (by omega) (by rw [Nat.add_sub_cancel]; omega) (by omega) _) ?_
    rintro _ w3 hx3 rfl
    rw [Nat.add_sub_cancel]
    have hbe : ((a.getD k 0).toNat : Int) - 48 - 1 = (bell a k : Nat) := by unfold bell; omega
    have ho3 := ho.ext hx3
    have e49 : (48 : Int) + ((k + 1 : Nat) : Int) = 49 + (k : Nat) := by omega
    simp only [↓vsd, vsn, gW, qd, qv, ev, pick, argE, zipE, ne_eq, eq_self, forall_const, implies_true, if_true, if_false, reduceIte, reduceCtorEq, Nat.reduceEqDiff, Nat.reduceAdd, Nat.reduceLT, ↓us_sl1Turn, r_sl1Turn, hbe, ho3.sq.facts, hl, e49]
    refine ⟨inR_i64 (by omega), inR_i64 (by omega), inR_u8 (by omega), by omega, m_set1 (bell a k) (UInt8.ofNat (49 + k)) ho3 rfl (by omega) (by simp [fU, UInt8.toNat_ofNat', cells_int]; omega) fU_one ?_⟩
    rintro w4 ho4 hg4 hs4
    simp only [↓vsd, vsn, gW, qd, qv, ev, pick, argE, zipE, ne_eq, eq_self, forall_const, implies_true, if_true, if_false, reduceIte, reduceCtorEq, Nat.reduceEqDiff, Nat.reduceAdd, Nat.reduceLT, ↓us_sl1Turn, r_sl1Turn]
    refine ⟨inR_i64 (by omega), UpTo.next hlt ⟨_, rfl, by rw [List.length_set]; exact hl, fun j hj => ?_, ho4, ho3.grown (hx.trans hx3) (Nat.le_refl _) hg4⟩⟩
    rw [getD_set]
    by_cases hjk : j = k
    · subst hjk
      rw [if_pos ⟨rfl, by omega⟩]
    · rw [if_neg (fun h => hjk (ha.inj' (by omega) hlt h.1.symm))]
      exact hget j (by omega)
  · obtain rfl : k = a.length := by omega
    have hltI : ¬ ((a.length + 1 : Nat) : Int) ≤ a.length := by omega
    simp only [↓vsd, vsn, gW, qd, qv, ev, pick, argE, zipE, ne_eq, eq_self, forall_const, implies_true, if_true, if_false, reduceIte, reduceCtorEq, Nat.reduceEqDiff, Nat.reduceAdd, Nat.reduceLT, ↓us_sl1Turn, r_sl1Turn, hltI]
    refine m_b2s ho.sq ?_
    simp only [↓vsd, vsn, gW, qd, qv, ev, pick, argE, zipE, ne_eq, eq_self, forall_const, implies_true, if_true, if_false, reduceIte, reduceCtorEq, Nat.reduceEqDiff, Nat.reduceAdd, Nat.reduceLT, ↓us_sl1Turn, r_sl1Turn]
    exact ⟨hx, by rw [turn_unique ha hl hget]⟩
theorem iRoundsOf_ok (n : Int) (w : World) : Fn 51 [.int .i64 n] w (fun r _ => r = roundsV n) := by
  (refine callsV_of mix Try.func51 c_iRoundsOf ?_; simp only [↓vsd, vsn, gW, qd, qv, ev, pick, argE, zipE, ne_eq, eq_self, forall_const, implies_true, if_true, if_false, reduceIte, reduceCtorEq, Nat.reduceEqDiff, Nat.reduceAdd, Nat.reduceLT, ↓us_iRoundsOf, r_iRoundsOf])
  refine m_call (iisStage_ok _ _) ?_
  rintro _ w1 hx1 rfl
  simp only [↓vsd, vsn, gW, qd, qv, ev, pick, argE, zipE, ne_eq, eq_self, forall_const, implies_true, if_true, if_false, reduceIte, reduceCtorEq, Nat.reduceEqDiff, Nat.reduceAdd, Nat.reduceLT, ↓us_iRoundsOf, r_iRoundsOf]
  refine ⟨fun hn => ⟨hx1, by rw [roundsV, if_neg (by omega)]⟩, fun hy => ?_⟩
  obtain ⟨n, rfl⟩ : ∃ k : Nat, n = k := ⟨n.toNat, by omega⟩
  refine m_call (irounds_ok n (by omega) _) ?_
  rintro _ w2 hx2 rfl
  simp only [↓vsd, vsn, gW, qd, qv, ev, pick, argE, zipE, ne_eq, eq_self, forall_const, implies_true, if_true, if_false, reduceIte, reduceCtorEq, Nat.reduceEqDiff, Nat.reduceAdd, Nat.reduceLT, ↓us_iRoundsOf, r_iRoundsOf]
  exact ⟨hx1.trans hx2, by rw [roundsV, if_pos hy]; rfl⟩
theorem lbig_ok (v u : Value) (a b : List UInt8) (ha : a.length ≤ 9223372036854775807) (hb : b.length ≤ 9223372036854775807) (w : World) (h : Sq fU 1 w v a) (h' : Sq fU 1 w u b) : Fn 45 [v, u] w (fun r _ => r = .bool (decide (1048576 < a.length + b.length))) := by
  (refine callsV_of mix Try.func45 c_lbig ?_; simp only [↓vsd, vsn, gW, qd, qv, ev, pick, argE, zipE, ne_eq, eq_self, forall_const, implies_true, if_true, if_false, reduceIte, reduceCtorEq, Nat.reduceEqDiff, Nat.reduceAdd, Nat.reduceLT, ↓us_lbig, r_lbig])
  simp only [↓vsd, vsn, gW, qd, qv, ev, pick, argE, zipE, ne_eq, eq_self, forall_const, implies_true, if_true, if_false, reduceIte, reduceCtorEq, Nat.reduceEqDiff, Nat.reduceAdd, Nat.reduceLT, ↓us_lbig, r_lbig, h.facts, h'.facts]
  refine ⟨fun _ => inR_i64 (by omega), Ext.refl _, ?_⟩
  rw [← Bool.decide_or]
  congr 1
  exact propext ⟨fun h => by omega, fun h => by omega⟩
end Go.Proofs.Ytnhealghpfjdcaa
