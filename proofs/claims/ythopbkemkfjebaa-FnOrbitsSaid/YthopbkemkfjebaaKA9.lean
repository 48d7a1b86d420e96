/-
  Rows by rank; the rows that fit a pattern; the call of the law FnExactRowsThatFit.
  Conditions: none.
-/
import Derived.Test.YthopbkemkfjebaaKA3
import Derived.Test.YthopbkemkfjebaaKA6
import Derived.Test.YthopbkemkfjebaaKPd
set_option linter.unusedSimpArgs false
set_option linter.unusedVariables false
set_option linter.defProp false
namespace Go.Proofs.Ythopbkemkfjebaa
open Go Go.RowKit
section
variable (P : Program) (k : KT) (e : Env) (w : World)
abbrev b85_1 : X := (.seq (.reg [2] (.c (.q 3 [] (.mv (.t 0))) (.c (.q 4 [] (.sub (.s [49, 50, 51, 52, 53, 54, 55, 56]) none (some (.t 3)))) (.c (.q 2 [] (.mv (.t 4))) .nil)))) .ret)
def t85_1 := b85_1
theorem u85_1 : vcK P t85_1 k e w = vcK P b85_1 k e w := rfl
abbrev b85_0 : X := (.seq (.reg [0] (.c (.q 2 [] (.mv (.s []))) .nil)) t85_1)
def x_irounds := b85_0
theorem u85_0 : vcK P x_irounds k e w = vcK P b85_0 k e w := rfl
def r_irounds : List XO := [(.mv (.t 2))]
theorem c_irounds : convF Try.prog [54, 55, 58, 69, 70, 71, 72, 73, 84, 89, 94, 95, 113, 114, 115, 130, 134, 143, 146, 161] Try.f85 [([0], []), ([2], [])] = some (x_irounds, r_irounds) := by kernel_rfl
def us_irounds :=  (aI @u85_0 @u85_1)
abbrev b124_1 : X := (.seq (.reg [2] (.c (.q 3 [] (.mv (.t 0))) (.c (.q 4 [] (.sub (.s [49, 50, 51, 52, 53, 54, 55, 56]) none (some (.t 3)))) (.c (.q 2 [] (.mv (.t 4))) .nil)))) .ret)
def t124_1 := b124_1
theorem u124_1 : vcK P t124_1 k e w = vcK P b124_1 k e w := rfl
abbrev b124_0 : X := (.seq (.reg [0] (.c (.q 2 [] (.mv (.s []))) .nil)) t124_1)
def x_sl1Rounds := b124_0
theorem u124_0 : vcK P x_sl1Rounds k e w = vcK P b124_0 k e w := rfl
def r_sl1Rounds : List XO := [(.mv (.t 2))]
theorem c_sl1Rounds : convF Try.prog [54, 55, 58, 69, 70, 71, 72, 73, 84, 89, 94, 95, 113, 114, 115, 130, 134, 143, 146, 161] Try.f124 [([0], []), ([2], [])] = some (x_sl1Rounds, r_sl1Rounds) := by kernel_rfl
def us_sl1Rounds :=  (aI @u124_0 @u124_1)
abbrev b138_1 : X := (.cond (.t 5) .skip (.exit 0))
def t138_1 := b138_1
theorem u138_1 : vcK P t138_1 k e w = vcK P b138_1 k e w := rfl
abbrev b138_2 : X := (.reg [0, 3] (.c (.q 6 [] (.mv (.t 0))) (.c (.q 7 [] (.bin .sub (.t 6) (.c (.int .i64 1)))) (.c (.q 0 [] (.mv (.t 7))) .nil))))
def t138_2 := b138_2
theorem u138_2 : vcK P t138_2 k e w = vcK P b138_2 k e w := rfl
abbrev b138_3 : X := (.seq (.blk 1 (.reg [0, 3] (.c (.q 8 [] (.mv (.t 3))) (.c (.q 9 [] (.mv (.t 0))) (.c (.q 10 [] (.bin .mul (.t 8) (.t 9))) (.c (.q 3 [] (.mv (.t 10))) .nil)))))) t138_2)
def t138_3 := b138_3
theorem u138_3 : vcK P t138_3 k e w = vcK P b138_3 k e w := rfl
abbrev b138_4 : X := (.seq (.seq (.reg [0, 3, 5] (.c (.q 4 [] (.mv (.t 0))) (.c (.q 5 [] (.bin .gtr (.t 4) (.c (.int .i64 1)))) .nil))) t138_1) t138_3)
def t138_4 := b138_4
theorem u138_4 : vcK P t138_4 k e w = vcK P b138_4 k e w := rfl
abbrev b138_5 : X := (.seq (.reg [2] (.c (.q 11 [] (.mv (.t 3))) (.c (.q 2 [] (.mv (.t 11))) .nil))) .ret)
def t138_5 := b138_5
theorem u138_5 : vcK P t138_5 k e w = vcK P b138_5 k e w := rfl
abbrev b138_6 : X := (.seq (.blk 0 (.loop [0, 3] [] t138_4)) t138_5)
def t138_6 := b138_6
theorem u138_6 : vcK P t138_6 k e w = vcK P b138_6 k e w := rfl
abbrev b138_7 : X := (.seq (.reg [0, 3] (.c (.q 3 [] (.mv (.c (.int .i64 1)))) .nil)) t138_6)
def t138_7 := b138_7
theorem u138_7 : vcK P t138_7 k e w = vcK P b138_7 k e w := rfl
abbrev b138_0 : X := (.seq (.reg [0] (.c (.q 2 [] (.mv (.c (.int .i64 0)))) .nil)) t138_7)
def x_sl1Fact := b138_0
theorem u138_0 : vcK P x_sl1Fact k e w = vcK P b138_0 k e w := rfl
def r_sl1Fact : List XO := [(.mv (.t 2))]
theorem c_sl1Fact : convF Try.prog [54, 55, 58, 69, 70, 71, 72, 73, 84, 89, 94, 95, 113, 114, 115, 130, 134, 143, 146, 161] Try.f138 [([0], []), ([0, 3], []), ([0, 3], []), ([0, 3, 5], []), ([0, 3], []), ([0, 3], []), ([2], [])] = some (x_sl1Fact, r_sl1Fact) := by kernel_rfl
def us_sl1Fact :=  (aI (aI (aI @u138_0 @u138_1) (aI @u138_2 @u138_3)) (aI (aI @u138_4 @u138_5) (aI @u138_6 @u138_7)))
abbrev b137_1 : X := (.cond (.t 20) (.seq (.reg [4, 5] (.c (.q 4 [] (.mv (.s []))) (.c (.q 5 [] (.mv (.c (.bool false)))) .nil))) .ret) .skip)
def t137_1 := b137_1
theorem u137_1 : vcK P t137_1 k e w = vcK P b137_1 k e w := rfl
abbrev b137_2 : X := (.cond (.t 25) .skip (.exit 0))
def t137_2 := b137_2
theorem u137_2 : vcK P t137_2 k e w = vcK P b137_2 k e w := rfl
abbrev b137_3 : X := (.drw [1, 6, 7] (.c (.q 43 [] (.mv (.t 6))) (.c (.q 44 [] (.mv (.t 9))) (.c (.q 45 [] (.sub (.t 43) none (some (.t 44)))) (.c (.q 46 [] (.mv (.t 6))) (.c (.q 47 [] (.mv (.t 9))) (.c (.q 48 [] (.bin .add (.t 47) (.c (.int .i64 1)))) (.c (.q 49 [] (.sub (.t 46) (some (.t 48)) none)) (.c (.q 50 [] (.bin .add (.t 45) (.t 49))) (.c (.q 6 [] (.mv (.t 50))) .nil))))))))))
def t137_3 := b137_3
theorem u137_3 : vcK P t137_3 k e w = vcK P b137_3 k e w := rfl
abbrev b137_4 : X := (.seq (.reg [1, 6, 7, 9] (.c (.q 36 [] (.mv (.t 7))) (.c (.q 37 [] (.mv (.t 6))) (.c (.q 38 [] (.mv (.t 9))) (.c (.q 39 [] (.mv (.t 9))) (.c (.q 40 [] (.bin .add (.t 39) (.c (.int .i64 1)))) (.c (.q 41 [] (.sub (.t 37) (some (.t 38)) (some (.t 40)))) (.c (.q 42 [] (.bin .add (.t 36) (.t 41))) (.c (.q 7 [] (.mv (.t 42))) .nil))))))))) t137_3)
def t137_4 := b137_4
theorem u137_4 : vcK P t137_4 k e w = vcK P b137_4 k e w := rfl
abbrev b137_5 : X := (.seq (.reg [1, 6, 7, 9] (.c (.q 33 [] (.mv (.t 1))) (.c (.q 34 [] (.mv (.t 8))) (.c (.q 35 [] (.bin .rem (.t 33) (.t 34))) (.c (.q 1 [] (.mv (.t 35))) .nil))))) t137_4)
def t137_5 := b137_5
theorem u137_5 : vcK P t137_5 k e w = vcK P b137_5 k e w := rfl
abbrev b137_6 : X := (.seq (.reg [1, 6, 7, 8, 9] (.c (.q 30 [] (.mv (.t 1))) (.c (.q 31 [] (.mv (.t 8))) (.c (.q 32 [] (.bin .quo (.t 30) (.t 31))) (.c (.q 9 [] (.mv (.t 32))) .nil))))) t137_5)
def t137_6 := b137_6
theorem u137_6 : vcK P t137_6 k e w = vcK P b137_6 k e w := rfl
abbrev b137_7 : X := (.blk 1 (.seq (.reg [1, 6, 7, 8] (.c (.q 26 [] (.mv (.t 6))) (.c (.q 27 [] (.len (.t 26))) (.c (.q 28 [] (.bin .sub (.t 27) (.c (.int .i64 1)))) (.c (.e (some 29) [] (.call false 138 [(.t 28)])) (.c (.q 8 [] (.mv (.t 29))) .nil)))))) t137_6))
def t137_7 := b137_7
theorem u137_7 : vcK P t137_7 k e w = vcK P b137_7 k e w := rfl
abbrev b137_8 : X := (.seq (.seq (.reg [1, 6, 7, 25] (.c (.q 23 [] (.mv (.t 6))) (.c (.q 24 [] (.len (.t 23))) (.c (.q 25 [] (.bin .gtr (.t 24) (.c (.int .i64 0)))) .nil)))) t137_2) t137_7)
def t137_8 := b137_8
theorem u137_8 : vcK P t137_8 k e w = vcK P b137_8 k e w := rfl
abbrev b137_9 : X := (.seq (.reg [4, 5] (.c (.q 51 [] (.mv (.t 7))) (.c (.q 4 [] (.mv (.t 51))) (.c (.q 5 [] (.mv (.c (.bool true)))) .nil)))) .ret)
def t137_9 := b137_9
theorem u137_9 : vcK P t137_9 k e w = vcK P b137_9 k e w := rfl
abbrev b137_10 : X := (.seq (.blk 0 (.loop [1, 6, 7] [] t137_8)) t137_9)
def t137_10 := b137_10
theorem u137_10 : vcK P t137_10 k e w = vcK P b137_10 k e w := rfl
abbrev b137_11 : X := (.seq (.reg [1, 6, 7] (.c (.q 7 [] (.mv (.s []))) .nil)) t137_10)
def t137_11 := b137_11
theorem u137_11 : vcK P t137_11 k e w = vcK P b137_11 k e w := rfl
abbrev b137_12 : X := (.seq (.reg [1, 6] (.c (.q 21 [] (.mv (.t 0))) (.c (.e (some 22) [] (.call false 124 [(.t 21)])) (.c (.q 6 [] (.mv (.t 22))) .nil)))) t137_11)
def t137_12 := b137_12
theorem u137_12 : vcK P t137_12 k e w = vcK P b137_12 k e w := rfl
abbrev b137_13 : X := (.seq (.seq (.reg [0, 1, 20] (.c (.q 10 [] (.mv (.t 0))) (.c (.e (some 11) [] (.call false 59 [(.t 10), (.c (.int .i64 3)), (.c (.int .i64 8))])) (.c (.q 12 [] (.not (.t 11))) (.c (.q 13 [] (.mv (.t 12))) (.c (.q 14 [(13, false)] (.mv (.t 1))) (.c (.q 15 [(13, false)] (.mv (.t 0))) (.c (.e (some 16) [(13, false)] (.call false 138 [(.t 15)])) (.c (.q 17 [(13, false)] (.bin .sub (.t 16) (.c (.int .i64 1)))) (.c (.e (some 18) [(13, false)] (.call false 59 [(.t 14), (.c (.int .i64 0)), (.t 17)])) (.c (.q 19 [(13, false)] (.not (.t 18))) (.c (.q 20 [] (.pick (.t 13) (.c (.bool true)) (.t 19))) .nil)))))))))))) t137_1) t137_12)
def t137_13 := b137_13
theorem u137_13 : vcK P t137_13 k e w = vcK P b137_13 k e w := rfl
abbrev b137_0 : X := (.seq (.reg [0, 1] (.c (.q 4 [] (.mv (.s []))) (.c (.q 5 [] (.mv (.c (.bool false)))) .nil))) t137_13)
def x_sRowOf := b137_0
theorem u137_0 : vcK P x_sRowOf k e w = vcK P b137_0 k e w := rfl
def r_sRowOf : List XO := [(.mv (.t 4)), (.mv (.t 5))]
theorem c_sRowOf : convF Try.prog [54, 55, 58, 69, 70, 71, 72, 73, 84, 89, 94, 95, 113, 114, 115, 130, 134, 143, 146, 161] Try.f137 [([0, 1], []), ([0, 1, 20], []), ([4, 5], []), ([1, 6], []), ([1, 6, 7], []), ([1, 6, 7], []), ([1, 6, 7, 25], []), ([1, 6, 7, 8], []), ([1, 6, 7, 8, 9], []), ([1, 6, 7, 9], []), ([1, 6, 7, 9], []), ([1, 6, 7], []), ([4, 5], [])] = some (x_sRowOf, r_sRowOf) := by kernel_rfl
def us_sRowOf :=  (aI (aI (aI @u137_0 (aI @u137_1 @u137_2)) (aI (aI @u137_3 @u137_4) (aI @u137_5 @u137_6))) (aI (aI @u137_7 (aI @u137_8 @u137_9)) (aI (aI @u137_10 @u137_11) (aI @u137_12 @u137_13))))
end
theorem roundsS : ∀ n < 9, ([49, 50, 51, 52, 53, 54, 55, 56] : List UInt8).take n = roundsL n := by decide
theorem irounds_ok (n : Nat) (hn : n < 9) (w : World) : Fn 85 [.int .i64 n] w (fun v _ => v = S (roundsL n)) := by
  (refine callsV_of mix Try.func85 c_irounds ?_; simp only [↓vsd, vsn, gW, qd, qv, ev, pick, argE, zipE, ne_eq, eq_self, forall_const, implies_true, if_true, if_false, reduceIte, reduceCtorEq, Nat.reduceEqDiff, Nat.reduceAdd, Nat.reduceLT, ↓us_irounds, r_irounds])
  exact ⟨by omega, Ext.refl _, by rw [roundsS n hn]⟩
theorem sl1Rounds_ok (n : Nat) (hn : n < 9) (w : World) : Fn 124 [.int .i64 n] w (fun v _ => v = S (roundsL n)) := by
  (refine callsV_of mix Try.func124 c_sl1Rounds ?_; simp only [↓vsd, vsn, gW, qd, qv, ev, pick, argE, zipE, ne_eq, eq_self, forall_const, implies_true, if_true, if_false, reduceIte, reduceCtorEq, Nat.reduceEqDiff, Nat.reduceAdd, Nat.reduceLT, ↓us_sl1Rounds, r_sl1Rounds])
  exact ⟨by omega, Ext.refl _, by rw [roundsS n hn]⟩
theorem sl1Fact_ok (n : Nat) (hn : n < 9) (w : World) : Fn 138 [.int .i64 n] w (fun v _ => v = .int .i64 (factL n : Nat)) := by
  (refine callsV_of mix Try.func138 c_sl1Fact ?_; simp only [↓vsd, vsn, gW, qd, qv, ev, pick, argE, zipE, ne_eq, eq_self, forall_const, implies_true, if_true, if_false, reduceIte, reduceCtorEq, Nat.reduceEqDiff, Nat.reduceAdd, Nat.reduceLT, ↓us_sl1Fact, r_sl1Fact])
  refine m_upto (n - 1) (fun k vs w' => ∃ m j : Nat, m + k = n ∧ j * factL m = factL n ∧ vs = [.int .i64 m, .int .i64 j] ∧ Ext w w') ⟨n, 1, rfl, Nat.one_mul _, rfl, Ext.refl _⟩ ?_
  rintro k vs w1 hk ⟨m, j, hm, hj, rfl, hx⟩
  simp only [↓vsd, vsn, gW, qd, qv, ev, pick, argE, zipE, ne_eq, eq_self, forall_const, implies_true, if_true, if_false, reduceIte, reduceCtorEq, Nat.reduceEqDiff, Nat.reduceAdd, Nat.reduceLT, ↓us_sl1Fact, r_sl1Fact]
  have hf := (factL_le n hn).2
  refine ⟨fun hle => ?_, fun hgt => ⟨hx, ?_⟩⟩
  · obtain ⟨i, rfl⟩ : ∃ i, m = i + 1 := ⟨m - 1, by omega⟩
    have h2 : j * (i + 1) * factL i = factL n := by rw [Nat.mul_assoc]; exact hj
    have h3 : j * (i + 1) ≤ factL n := by rw [← h2]; exact Nat.le_mul_of_pos_right _ (factL_pos i)
    rw [show (j : Int) * ((i + 1 : Nat) : Int) = (j * (i + 1) : Nat) by rw [Int.natCast_mul]]
    exact ⟨inR_i64 (by omega), inR_i64 (by omega), UpTo.next (by omega) ⟨i, j * (i + 1), by omega, h2, by rw [Int.natCast_add, Int.natCast_one, Int.add_sub_cancel], hx⟩⟩
  · have : factL m = 1 := by
      rcases Nat.lt_or_ge m 1 with h | h
      · obtain rfl : m = 0 := by omega
        rfl
      · obtain rfl : m = 1 := by omega
        rfl
    rw [this, Nat.mul_one] at hj
    rw [hj]
theorem Own.mono {α : Type} {f : α → List Value} {z E B B' : Nat} {w : World} {v : Value} {l : List α} (h : Own f z E B w v l) (hB : B' ≤ B) : Own f z E B' w v l :=
  ⟨h.1, h.2.imp id fun ⟨g, cap, cur, e, hg, hr⟩ => ⟨g, cap, cur, e, Nat.le_trans hB hg, hr⟩⟩
theorem sRowOf_ok (n k : Nat) (hn : 3 ≤ n ∧ n < 9) (hk : k < factL n) (w : World) : Fn 137 [.int .i64 n, .int .i64 k] w (fun v _ => v = .tuple ⟨[S (rowGo n (roundsL n) k), .bool true]⟩) := by
  (refine callsV_of mix Try.func137 c_sRowOf ?_; simp only [↓vsd, vsn, gW, qd, qv, ev, pick, argE, zipE, ne_eq, eq_self, forall_const, implies_true, if_true, if_false, reduceIte, reduceCtorEq, Nat.reduceEqDiff, Nat.reduceAdd, Nat.reduceLT, ↓us_sRowOf, r_sRowOf])
  refine m_call (sl1In_ok _ _ _ _) ?_
  rintro _ w1 hx1 rfl
  have h3 : 3 ≤ (n : Int) := by omega
  have h8 : (n : Int) ≤ 8 := by omega
  have hf := factL_le n hn.2
  simp only [↓vsd, vsn, gW, qd, qv, ev, pick, argE, zipE, ne_eq, eq_self, forall_const, implies_true, if_true, if_false, reduceIte, reduceCtorEq, Nat.reduceEqDiff, Nat.reduceAdd, Nat.reduceLT, ↓us_sRowOf, r_sRowOf, h3, h8]
  refine m_call (sl1Fact_ok n hn.2 _) ?_
  rintro _ w2 hx2 rfl
  simp only [↓vsd, vsn, gW, qd, qv, ev, pick, argE, zipE, ne_eq, eq_self, forall_const, implies_true, if_true, if_false, reduceIte, reduceCtorEq, Nat.reduceEqDiff, Nat.reduceAdd, Nat.reduceLT, ↓us_sRowOf, r_sRowOf]
  refine ⟨inR_i64 (by omega), m_call (sl1In_ok _ _ _ _) ?_⟩
  rintro _ w3 hx3 rfl
  have h0 : 0 ≤ (k : Int) := by omega
  have hk1 : (k : Int) ≤ (factL n : Nat) - 1 := by omega
  simp only [↓vsd, vsn, gW, qd, qv, ev, pick, argE, zipE, ne_eq, eq_self, forall_const, implies_true, if_true, if_false, reduceIte, reduceCtorEq, Nat.reduceEqDiff, Nat.reduceAdd, Nat.reduceLT, ↓us_sRowOf, r_sRowOf, h0, hk1]
  refine m_call (sl1Rounds_ok n hn.2 _) ?_
  rintro _ w4 hx4 rfl
  simp only [↓vsd, vsn, gW, qd, qv, ev, pick, argE, zipE, ne_eq, eq_self, forall_const, implies_true, if_true, if_false, reduceIte, reduceCtorEq, Nat.reduceEqDiff, Nat.reduceAdd, Nat.reduceLT, ↓us_sRowOf, r_sRowOf]
  have hx14 := ((hx1.trans hx2).trans hx3).trans hx4
  refine m_upto n (fun r vs w' => ∃ (i kk : Nat) (L O : List UInt8), i + r = n ∧ L.length = i ∧ O.length = r ∧ kk < factL i ∧ O ++ rowGo i L kk = rowGo n (roundsL n) k ∧ vs = [.int .i64 kk, S L, S O] ∧ Ext w w') ⟨n, k, roundsL n, [], rfl, roundsL_len n, rfl, hk, rfl, rfl, hx14⟩ ?_
  rintro r vs w5 hr ⟨i, kk, L, O, hir, hL, hO, hkk, hgo, rfl, hx5⟩
  simp only [↓vsd, vsn, gW, qd, qv, ev, pick, argE, zipE, ne_eq, eq_self, forall_const, implies_true, if_true, if_false, reduceIte, reduceCtorEq, Nat.reduceEqDiff, Nat.reduceAdd, Nat.reduceLT, ↓us_sRowOf, r_sRowOf, hL]
  cases i with
  | zero =>
    refine ⟨fun h => by omega, fun _ => ⟨hx5, by rw [← hgo]; simp [rowGo]⟩⟩
  | succ i =>
    refine ⟨fun _ => ⟨inR_i64 (by omega), ?_⟩, fun h => by omega⟩
    rw [show ((i + 1 : Nat) : Int) - 1 = (i : Nat) by omega]
    refine m_call (sl1Fact_ok i (by omega) _) ?_
    rintro _ w6 hx6 rfl
    have hfi := factL_le i (by omega)
    obtain ⟨hat, hmod⟩ := rank_lt i kk hkk
    have hne : ¬ ((factL i : Nat) : Int) = 0 := by omega
    simp only [↓vsd, vsn, gW, qd, qv, ev, pick, argE, zipE, ne_eq, eq_self, forall_const, implies_true, if_true, if_false, reduceIte, reduceCtorEq, Nat.reduceEqDiff, Nat.reduceAdd, Nat.reduceLT, ↓us_sRowOf, r_sRowOf, hne]
    generalize hq : kk / factL i = q at *
    generalize hqm : kk % factL i = qm at *
    have e1 : (L.take (q + 1)).drop q = [L.getD q 0] := by
      rw [List.take_add_one, List.drop_append, List.getD_eq_getElem?_getD, List.getElem?_eq_getElem (by omega)]
      simp [Nat.min_eq_left (show q ≤ L.length by omega)]
    rw [e1]
    have hl1 : (L.take q).length ≤ 8 := by simp; omega
    have hl2 : (L.drop (q + 1)).length ≤ 8 := by simp; omega
    refine ⟨inR_i64 (by omega), inR_i64 (by omega), by omega, by simp; omega, by omega, inR_i64 (by omega), by omega, by omega, UpTo.next (by omega) ⟨i, qm, _, _, by omega, ?_, ?_, hmod, ?_, rfl, dr (hx5.trans hx6)⟩⟩
    · simp; omega
    · simp; omega
    · rw [← hgo, rowGo, hq, hqm]; simp
end Go.Proofs.Ythopbkemkfjebaa
