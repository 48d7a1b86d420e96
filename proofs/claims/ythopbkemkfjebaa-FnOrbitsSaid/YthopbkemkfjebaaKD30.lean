/-
  The drawing of patterns and lists of rows: the cursor's part.
  Conditions: none.
-/
import Derived.Test.YthopbkemkfjebaaKD2
set_option linter.unusedSimpArgs false
set_option linter.unusedVariables false
set_option linter.defProp false
namespace Go.Proofs.Ythopbkemkfjebaa
open Go Go.RowKit
section
variable (P : Program) (k : KT) (e : Env) (w : World)
abbrev b72_1 : X := (.cond (.t 14) .skip (.exit 0))
def t72_1 := b72_1
theorem u72_1 : vcK P t72_1 k e w = vcK P b72_1 k e w := rfl
abbrev b72_2 : X := (.reg [0, 1, 7, 8] (.c (.q 15 [] (.mv (.t 8))) (.c (.q 16 [] (.bin .sub (.t 15) (.c (.int .i64 1)))) (.c (.q 8 [] (.mv (.t 16))) .nil))))
def t72_2 := b72_2
theorem u72_2 : vcK P t72_2 k e w = vcK P b72_2 k e w := rfl
abbrev b72_3 : X := (.seq (.blk 1 (.reg [0, 1, 7, 8] (.c (.q 17 [] (.mv (.t 7))) (.c (.q 18 [] (.mv (.t 0))) (.c (.q 19 [] (.mv (.t 1))) (.c (.e (some 20) [] (.call true 73 [(.t 18), (.t 19)])) (.c (.e (some 21) [] (.bsl 9 1 [(.t 20)])) (.c (.e (some 22) [] (.app 24 9 1 16 [(S [])] 24 (.t 17) (.t 21))) (.c (.q 7 [] (.mv (.t 22))) .nil))))))))) t72_2)
def t72_3 := b72_3
theorem u72_3 : vcK P t72_3 k e w = vcK P b72_3 k e w := rfl
abbrev b72_4 : X := (.seq (.seq (.reg [0, 1, 7, 8, 14] (.c (.q 13 [] (.mv (.t 8))) (.c (.q 14 [] (.bin .gtr (.t 13) (.c (.int .i64 0)))) .nil))) t72_1) t72_3)
def t72_4 := b72_4
theorem u72_4 : vcK P t72_4 k e w = vcK P b72_4 k e w := rfl
abbrev b72_5 : X := (.blk 0 (.loop [7, 8] [0, 1] t72_4))
def t72_5 := b72_5
theorem u72_5 : vcK P t72_5 k e w = vcK P b72_5 k e w := rfl
abbrev b72_6 : X := (.cond (.t 29) (.reg [7] (.c (.q 30 [] (.mv (.t 7))) (.c (.q 31 [] (.ia 1 (.t 30) (.c (.int .i64 0)))) (.c (.e none [] (.st 1 (.t 31) (.s [49]))) .nil)))) .skip)
def t72_6 := b72_6
theorem u72_6 : vcK P t72_6 k e w = vcK P b72_6 k e w := rfl
abbrev b72_7 : X := (.seq (.reg [6] (.c (.q 32 [] (.mv (.t 7))) (.c (.q 6 [] (.mv (.t 32))) .nil))) .ret)
def t72_7 := b72_7
theorem u72_7 : vcK P t72_7 k e w = vcK P b72_7 k e w := rfl
abbrev b72_8 : X := (.seq (.seq (.reg [7, 29] (.c (.q 23 [] (.mv (.t 7))) (.c (.q 24 [] (.lens (.t 23))) (.c (.q 25 [] (.bin .gtr (.t 24) (.c (.int .i64 0)))) (.c (.q 26 [] (.mv (.t 25))) (.c (.q 27 [(26, true)] (.mv (.t 0))) (.c (.e (some 28) [(26, true)] (.call true 70 [(.t 27), (.c (.int .i64 25))])) (.c (.q 29 [] (.pick (.t 26) (.t 28) (.c (.bool false)))) .nil)))))))) t72_6) t72_7)
def t72_8 := b72_8
theorem u72_8 : vcK P t72_8 k e w = vcK P b72_8 k e w := rfl
abbrev b72_9 : X := (.seq (.seq (.reg [0, 1, 7, 8] (.c (.q 9 [] (.mv (.t 0))) (.c (.q 10 [] (.mv (.t 2))) (.c (.q 11 [] (.bin .add (.t 10) (.c (.int .i64 1)))) (.c (.e (some 12) [] (.call true 55 [(.t 9), (.t 11)])) (.c (.q 8 [] (.mv (.t 12))) .nil)))))) t72_5) t72_8)
def t72_9 := b72_9
theorem u72_9 : vcK P t72_9 k e w = vcK P b72_9 k e w := rfl
abbrev b72_10 : X := (.seq (.reg [0, 1, 2, 7] (.c (.q 7 [] (.mv (.c (.slice none 0 0)))) .nil)) t72_9)
def t72_10 := b72_10
theorem u72_10 : vcK P t72_10 k e w = vcK P b72_10 k e w := rfl
abbrev b72_0 : X := (.seq (.reg [0, 1, 2] (.c (.q 6 [] (.mv (.c (.slice none 0 0)))) .nil)) t72_10)
def x_sl1Cur_rowsOf := b72_0
theorem u72_0 : vcK P x_sl1Cur_rowsOf k e w = vcK P b72_0 k e w := rfl
def r_sl1Cur_rowsOf : List XO := [(.mv (.t 6))]
theorem c_sl1Cur_rowsOf : convF Try.prog [54, 55, 58, 69, 70, 71, 72, 73, 84, 89, 94, 95, 113, 114, 115, 130, 134, 143, 146, 161] Try.f72 [([0, 1, 2], []), ([0, 1, 2, 7], []), ([0, 1, 7, 8], []), ([7, 8], [0, 1]), ([0, 1, 7, 8, 14], []), ([0, 1, 7, 8], []), ([0, 1, 7, 8], []), ([7, 29], []), ([7], []), ([6], [])] = some (x_sl1Cur_rowsOf, r_sl1Cur_rowsOf) := by kernel_rfl
def us_sl1Cur_rowsOf :=  (aI (aI (aI @u72_0 @u72_1) (aI @u72_2 (aI @u72_3 @u72_4))) (aI (aI @u72_5 (aI @u72_6 @u72_7)) (aI @u72_8 (aI @u72_9 @u72_10))))
end
/-- Blocks that are new may be written besides. -/
theorem sl1Cur_rowsOf_ok (W : World) (b n s : Nat) (hs : 3 ≤ s ∧ s ≤ 8) (m : Nat) (hm : m ≤ 100) (w : World) (hn : n ≤ 700000000) (hc : Cur W b n w) : CurFn 72 [cV b, .int .i64 s, .int .i64 m] W b n 1000 w (fun r w' => ∃ l : List (List UInt8), Own fS 1 9 w.heap.size w' r l ∧ l.length ≤ 100) := by
  (refine callsV_of mix Try.func72 c_sl1Cur_rowsOf ?_; simp only [↓vsd, vsn, gW, qd, qv, ev, pick, argE, zipE, ne_eq, eq_self, forall_const, implies_true, if_true, if_false, reduceIte, reduceCtorEq, Nat.reduceEqDiff, Nat.reduceAdd, Nat.reduceLT, ↓us_sl1Cur_rowsOf, r_sl1Cur_rowsOf])
  have hlt := hc.lt
  refine ⟨inR_i64 (by omega), m_callw (.inl rfl) (sl1Cur_pick_ok W b n (m + 1) (by omega) w (by omega) hc) ?_⟩
  rintro _ w1 ⟨hc1, hg1, x, rfl, hx⟩
  simp only [↓vsd, vsn, gW, qd, qv, ev, pick, argE, zipE, ne_eq, eq_self, forall_const, implies_true, if_true, if_false, reduceIte, reduceCtorEq, Nat.reduceEqDiff, Nat.reduceAdd, Nat.reduceLT, ↓us_sl1Cur_rowsOf, r_sl1Cur_rowsOf]
  refine m_loop (fun j vs w' => ∃ (v : Value) (l : List (List UInt8)), vs = [v, .int .i64 j] ∧ j ≤ 100 ∧ l.length + j ≤ 100 ∧ Own fS 1 9 w.heap.size w' v l ∧ Cur W b (n + 202 - 2 * j) w' ∧ w.grownBy w' (some b)) x ⟨_, [], rfl, by omega, by simp; omega, Own.nil fS_len, hc1.mono (by omega), hg1⟩ ?_
  rintro j vs w2 ⟨v, l, rfl, hj, hl, ho, hc2, hg2⟩
  have hBb : ∀ c, some b = some c → c < w.heap.size := fun c hc => by obtain rfl := Option.some.inj hc; exact hlt.2
  by_cases hj0 : 0 < j
  · have hjI : 0 < (j : Int) := by omega
    have hjJ : ¬ (j : Int) ≤ 0 := by omega
    simp only [↓vsd, vsn, gW, qd, qv, ev, pick, argE, zipE, ne_eq, eq_self, forall_const, implies_true, if_true, if_false, reduceIte, reduceCtorEq, Nat.reduceEqDiff, Nat.reduceAdd, Nat.reduceLT, ↓us_sl1Cur_rowsOf, r_sl1Cur_rowsOf, hjI, hjJ]
    refine m_callw (.inl rfl) (sl1Cur_row_ok W b _ s hs w2 (by omega) hc2) ?_
    rintro _ w3 ⟨hc3, hg3, y, rfl, hy⟩
    have ho3 := ho.keep hg3 hBb
    simp only [↓vsd, vsn, gW, qd, qv, ev, pick, argE, zipE, ne_eq, eq_self, forall_const, implies_true, if_true, if_false, reduceIte, reduceCtorEq, Nat.reduceEqDiff, Nat.reduceAdd, Nat.reduceLT, ↓us_sl1Cur_rowsOf, r_sl1Cur_rowsOf]
    refine m_bsl (one_el rfl) ?_
    rintro b4 w4 hb4 hblk4 hx4 hs4
    simp only [↓vsd, vsn, gW, qd, qv, ev, pick, argE, zipE, ne_eq, eq_self, forall_const, implies_true, if_true, if_false, reduceIte, reduceCtorEq, Nat.reduceEqDiff, Nat.reduceAdd, Nat.reduceLT, ↓us_sl1Cur_rowsOf, r_sl1Cur_rowsOf]
    have hg24 := grown_trans (grown_trans hg2 hg3) (grown_ext _ hx4)
    refine m_app (ho3.ext hx4) (Sq.one fS_len hblk4 rfl) fS_one (by decide) (by simp; omega) (by decide) hg24.size ?_
    rintro v5 w5 ho5 hg5
    simp only [↓vsd, vsn, gW, qd, qv, ev, pick, argE, zipE, ne_eq, eq_self, forall_const, implies_true, if_true, if_false, reduceIte, reduceCtorEq, Nat.reduceEqDiff, Nat.reduceAdd, Nat.reduceLT, ↓us_sl1Cur_rowsOf, r_sl1Cur_rowsOf]
    have hbnd := (ho3.ext hx4).bound
    refine ⟨inR_i64 (by omega), j - 1, by omega, v5, l ++ [y], ⟨rfl, by rw [show ((j : Int) - 1) = ((j - 1 : Nat) : Int) by omega]⟩, by omega, by simp; omega, ho5, ((hc3.ext hx4).keep hg5 (fun c hc => by have := (hbnd c hc).1; omega)).mono (by omega), grown_new hg24 hg5 (fun c hc => (hbnd c hc).1)⟩
  · have hjI : ¬ 0 < (j : Int) := by omega
    simp only [↓vsd, vsn, gW, qd, qv, ev, pick, argE, zipE, ne_eq, eq_self, forall_const, implies_true, if_true, if_false, reduceIte, reduceCtorEq, Nat.reduceEqDiff, Nat.reduceAdd, Nat.reduceLT, ↓us_sl1Cur_rowsOf, r_sl1Cur_rowsOf, hjI, ho.sq.facts]
    refine ⟨fun hpos => m_callw (.inl rfl) (sl1Cur_one_ok W b _ 25 (by omega) w2 (by omega) hc2) ?_, fun _ => ⟨hc2.mono (by omega), hg2, l, ho, by omega⟩⟩
    rintro _ w3 ⟨hc3, hg3, y, rfl⟩
    have ho3 := ho.keep hg3 hBb
    have hg13 := grown_trans hg2 hg3
    cases y
    · simp only [↓vsd, vsn, gW, qd, qv, ev, pick, argE, zipE, ne_eq, eq_self, forall_const, implies_true, if_true, if_false, reduceIte, reduceCtorEq, Nat.reduceEqDiff, Nat.reduceAdd, Nat.reduceLT, ↓us_sl1Cur_rowsOf, r_sl1Cur_rowsOf, hpos]
      exact ⟨hc3.mono (by omega), hg13, l, ho3, by omega⟩
    · simp only [↓vsd, vsn, gW, qd, qv, ev, pick, argE, zipE, ne_eq, eq_self, forall_const, implies_true, if_true, if_false, reduceIte, reduceCtorEq, Nat.reduceEqDiff, Nat.reduceAdd, Nat.reduceLT, ↓us_sl1Cur_rowsOf, r_sl1Cur_rowsOf, ho3.sq.facts, hpos]
      refine ⟨by omega, m_set1 0 [49] ho3 rfl (by omega) rfl fS_one ?_⟩
      rintro w4 ho4 hg4 hs4
      simp only [↓vsd, vsn, gW, qd, qv, ev, pick, argE, zipE, ne_eq, eq_self, forall_const, implies_true, if_true, if_false, reduceIte, reduceCtorEq, Nat.reduceEqDiff, Nat.reduceAdd, Nat.reduceLT, ↓us_sl1Cur_rowsOf, r_sl1Cur_rowsOf]
      have hbnd := ho3.bound
      exact ⟨(hc3.keep hg4 (fun c hc => by have := (hbnd c hc).1; omega)).mono (by omega), grown_new hg13 hg4 (fun c hc => (hbnd c hc).1), _, ho4, by rw [List.length_set]; omega⟩
end Go.Proofs.Ythopbkemkfjebaa
