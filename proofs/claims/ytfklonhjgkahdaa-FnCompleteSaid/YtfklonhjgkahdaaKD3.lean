/-
  Products, inverses, powers and rounds of rows, as program and reference compute them.
  Conditions: none.
-/
import Derived.Test.YtfklonhjgkahdaaKA10
import Derived.Test.YtfklonhjgkahdaaKD2
set_option linter.unusedSimpArgs false
set_option linter.unusedVariables false
set_option linter.defProp false
namespace Go.Proofs.Ytfklonhjgkahdaa
open Go Go.RowKit
section
variable (P : Program) (k : KT) (e : Env) (w : World)
abbrev b109_1 : X := (.reg [0, 3, 9, 10] (.c (.q 13 [] (.mv (.t 3))) (.c (.q 14 [] (.mv (.t 0))) (.c (.q 15 [] (.mv (.t 4))) (.c (.q 16 [] (.idx (.t 14) (.t 15))) (.c (.q 17 [] (.bin .sub (.t 16) (.c (.int .u8 49)))) (.c (.q 18 [] (.mv (.t 4))) (.c (.q 19 [] (.bin .add (.c (.int .i64 49)) (.t 18))) (.c (.q 20 [] (.cvi .u8 (.t 19))) (.c (.q 21 [] (.ia 1 (.t 13) (.t 17))) (.c (.e none [] (.st 1 (.t 21) (.t 20))) .nil)))))))))))
def t109_1 := b109_1
theorem u109_1 : vcK P t109_1 k e w = vcK P b109_1 k e w := rfl
abbrev b109_2 : X := (.reg [0, 3, 9, 10] (.c (.q 22 [] (.bin .add (.t 10) (.c (.int .i64 1)))) (.c (.q 10 [] (.mv (.t 22))) .nil)))
def t109_2 := b109_2
theorem u109_2 : vcK P t109_2 k e w = vcK P b109_2 k e w := rfl
abbrev b109_3 : X := (.seq (.blk 1 (.seq (.reg [0, 3, 4, 9, 10] (.c (.q 12 [] (.mv (.t 10))) (.c (.q 4 [] (.mv (.t 12))) .nil))) t109_1)) t109_2)
def t109_3 := b109_3
theorem u109_3 : vcK P t109_3 k e w = vcK P b109_3 k e w := rfl
abbrev b109_4 : X := (.seq (.cond (.t 11) .skip (.exit 0)) t109_3)
def t109_4 := b109_4
theorem u109_4 : vcK P t109_4 k e w = vcK P b109_4 k e w := rfl
abbrev b109_5 : X := (.seq (.reg [0, 3, 9, 10, 11] (.c (.q 11 [] (.bin .lss (.t 10) (.t 9))) .nil)) t109_4)
def t109_5 := b109_5
theorem u109_5 : vcK P t109_5 k e w = vcK P b109_5 k e w := rfl
abbrev b109_6 : X := (.blk 0 (.loop [10] [0, 3, 9] t109_5))
def t109_6 := b109_6
theorem u109_6 : vcK P t109_6 k e w = vcK P b109_6 k e w := rfl
abbrev b109_7 : X := (.seq (.reg [2] (.c (.q 23 [] (.mv (.t 3))) (.c (.e (some 24) [] (.b2s (.t 23))) (.c (.q 2 [] (.mv (.t 24))) .nil)))) .ret)
def t109_7 := b109_7
theorem u109_7 : vcK P t109_7 k e w = vcK P b109_7 k e w := rfl
abbrev b109_8 : X := (.seq (.seq (.reg [0, 3, 9, 10] (.c (.q 8 [] (.mv (.t 3))) (.c (.q 9 [] (.lens (.t 8))) (.c (.q 10 [] (.mv (.c (.int .i64 0)))) .nil)))) t109_6) t109_7)
def t109_8 := b109_8
theorem u109_8 : vcK P t109_8 k e w = vcK P b109_8 k e w := rfl
abbrev b109_9 : X := (.seq (.reg [0, 3] (.c (.q 5 [] (.mv (.t 0))) (.c (.q 6 [] (.len (.t 5))) (.c (.e (some 7) [] (.msl 22 5 1 1 [(.int .u8 0)] (.t 6) (.t 6))) (.c (.q 3 [] (.mv (.t 7))) .nil))))) t109_8)
def t109_9 := b109_9
theorem u109_9 : vcK P t109_9 k e w = vcK P b109_9 k e w := rfl
abbrev b109_0 : X := (.seq (.reg [0] (.c (.q 2 [] (.mv (.s []))) .nil)) t109_9)
def x_iturned := b109_0
theorem u109_0 : vcK P x_iturned k e w = vcK P b109_0 k e w := rfl
def r_iturned : List XO := [(.mv (.t 2))]
theorem c_iturned : convF Try.prog [38, 39, 41, 42, 49, 54, 55, 57, 58, 59, 73, 79, 81, 84, 87, 139] Try.f109 [([0], []), ([0, 3], []), ([0, 3, 9, 10], []), ([10], [0, 3, 9]), ([0, 3, 9, 10, 11], []), ([0, 3, 4, 9, 10], []), ([0, 3, 9, 10], []), ([0, 3, 9, 10], []), ([2], [])] = some (x_iturned, r_iturned) := by kernel_rfl
def us_iturned :=  (aI (aI (aI @u109_0 @u109_1) (aI @u109_2 (aI @u109_3 @u109_4))) (aI (aI @u109_5 @u109_6) (aI @u109_7 (aI @u109_8 @u109_9))))
end
theorem iturned_ok (a : List UInt8) (ha : IsRow a) (w : World) : Fn 109 [S a] w (fun r _ => r = S (turnL a)) := by
  (refine callsV_of mix Try.func109 c_iturned ?_; simp only [↓vsd, vsn, gW, qd, qv, ev, pick, argE, zipE, ne_eq, eq_self, forall_const, implies_true, if_true, if_false, reduceIte, reduceCtorEq, Nat.reduceEqDiff, Nat.reduceAdd, Nat.reduceLT, ↓us_iturned, r_iturned])
  have h8 := ha.1
  refine m_msl (f := fU) (B := w.heap.size) (0 : UInt8) fU_len rfl (by omega) (by decide) (Nat.le_refl _) ?_
  rintro vo w1 ho1 _ hx1
  simp only [↓vsd, vsn, gW, qd, qv, ev, pick, argE, zipE, ne_eq, eq_self, forall_const, implies_true, if_true, if_false, reduceIte, reduceCtorEq, Nat.reduceEqDiff, Nat.reduceAdd, Nat.reduceLT, ↓us_iturned, r_iturned, ho1.sq.facts]
  rw [List.length_replicate]
  refine m_upto a.length (fun k vs w' => ∃ l : List UInt8, vs = [.int .i64 k] ∧ l.length = a.length ∧ (∀ j < k, l.getD (bell a j) 0 = UInt8.ofNat (49 + j)) ∧ Own fU 1 5 w.heap.size w' vo l ∧ Ext w w') ⟨_, rfl, List.length_replicate, fun j hj => absurd hj (Nat.not_lt_zero j), ho1, hx1⟩ ?_
  rintro k vs w2 hk ⟨l, rfl, hl, hget, ho, hx⟩
  by_cases hlt : k < a.length
  · have hltI : (k : Int) < a.length := by omega
    have hltJ : ¬ (a.length : Int) ≤ k := by omega
    have hlow := ha.low hlt
    have hhigh := ha.high hlt
    have hbe : ((a.getD k 0).toNat : Int) - 49 = (bell a k : Nat) := by unfold bell; omega
    have hbl := ha.bell_lt hlt
    simp only [↓vsd, vsn, gW, qd, qv, ev, pick, argE, zipE, ne_eq, eq_self, forall_const, implies_true, if_true, if_false, reduceIte, reduceCtorEq, Nat.reduceEqDiff, Nat.reduceAdd, Nat.reduceLT, ↓us_iturned, r_iturned, hltI, hltJ, ho.sq.facts, hl, hbe]
    refine ⟨by omega, inR_u8 (by omega), inR_i64 (by omega), inR_u8 (by omega), by omega, m_set1 (bell a k) (UInt8.ofNat (49 + k)) ho rfl (by omega) (by simp [fU, UInt8.toNat_ofNat', cells_int]; omega) fU_one ?_⟩
    rintro w4 ho4 hg4 hs4
    simp only [↓vsd, vsn, gW, qd, qv, ev, pick, argE, zipE, ne_eq, eq_self, forall_const, implies_true, if_true, if_false, reduceIte, reduceCtorEq, Nat.reduceEqDiff, Nat.reduceAdd, Nat.reduceLT, ↓us_iturned, r_iturned]
    refine ⟨inR_i64 (by omega), UpTo.next hlt ⟨_, rfl, by rw [List.length_set]; exact hl, fun j hj => ?_, ho4, ho.grown (hx) (Nat.le_refl _) hg4⟩⟩
    rw [getD_set]
    by_cases hjk : j = k
    · subst hjk
      rw [if_pos ⟨rfl, by omega⟩]
    · rw [if_neg (fun h => hjk (ha.inj' (by omega) hlt h.1.symm))]
      exact hget j (by omega)
  · obtain rfl : k = a.length := by omega
    have hltI : ¬ (a.length : Int) < a.length := by omega
    simp only [↓vsd, vsn, gW, qd, qv, ev, pick, argE, zipE, ne_eq, eq_self, forall_const, implies_true, if_true, if_false, reduceIte, reduceCtorEq, Nat.reduceEqDiff, Nat.reduceAdd, Nat.reduceLT, ↓us_iturned, r_iturned, hltI]
    refine m_b2s ho.sq ?_
    simp only [↓vsd, vsn, gW, qd, qv, ev, pick, argE, zipE, ne_eq, eq_self, forall_const, implies_true, if_true, if_false, reduceIte, reduceCtorEq, Nat.reduceEqDiff, Nat.reduceAdd, Nat.reduceLT, ↓us_iturned, r_iturned]
    exact ⟨hx, by rw [turn_unique ha hl hget]⟩
end Go.Proofs.Ytfklonhjgkahdaa
