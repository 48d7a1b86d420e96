/-
  The drawing of patterns and lists of rows: the cursor's part.
  Conditions: none.
-/
import Derived.Test.YtpnopboffalfnaaD2
set_option linter.unusedSimpArgs false
set_option linter.unusedVariables false
set_option linter.defProp false
namespace Go.Proofs.Ytpnopboffalfnaa
open Go Go.RowKit
section
variable (P : Program) (k : KT) (e : Env) (w : World)
abbrev b309_1 : X := (.cond (.t 8) (.reg [3] (.c (.q 9 [] (.mv (.t 0))) (.c (.q 10 [] (.mv (.t 3))) (.c (.e (some 11) [] (.call true 299 [(.t 9), (.t 10), (.s [49, 50, 42, 63, 57])])) (.c (.q 3 [] (.mv (.t 11))) .nil))))) .skip)
def t309_1 := b309_1
theorem u309_1 : vcK P t309_1 k e w = vcK P b309_1 k e w := rfl
abbrev b309_2 : X := (.seq (.reg [2] (.c (.q 12 [] (.mv (.t 3))) (.c (.q 2 [] (.mv (.t 12))) .nil))) .ret)
def t309_2 := b309_2
theorem u309_2 : vcK P t309_2 k e w = vcK P b309_2 k e w := rfl
abbrev b309_3 : X := (.seq (.seq (.reg [0, 3, 8] (.c (.q 7 [] (.mv (.t 0))) (.c (.e (some 8) [] (.call true 207 [(.t 7), (.c (.int .i64 6))])) .nil))) t309_1) t309_2)
def t309_3 := b309_3
theorem u309_3 : vcK P t309_3 k e w = vcK P b309_3 k e w := rfl
abbrev b309_4 : X := (.seq (.reg [0, 3] (.c (.q 4 [] (.mv (.t 0))) (.c (.e (some 5) [] (.bsl 9 1 [(.s [42]), (.s [49, 42]), (.s [42, 52, 54]), (.s [63, 63, 50, 49, 42]), (.s [42, 49, 50, 51, 42]), (.s [49, 63, 51, 63]), (.s [42, 52, 63]), (.s [49, 50, 42]), (.s [42, 51, 50, 49]), (.s [53, 42, 49, 42]), (.s [63, 63, 63, 63]), (.s [42, 50, 42])])) (.c (.e (some 6) [] (.call true 255 [(.t 4), (.t 5)])) (.c (.q 3 [] (.mv (.t 6))) .nil))))) t309_3)
def t309_4 := b309_4
theorem u309_4 : vcK P t309_4 k e w = vcK P b309_4 k e w := rfl
abbrev b309_0 : X := (.seq (.reg [0] (.c (.q 2 [] (.mv (.s []))) .nil)) t309_4)
def x_sl1Cur_pattern := b309_0
theorem u309_0 : vcK P x_sl1Cur_pattern k e w = vcK P b309_0 k e w := rfl
def r_sl1Cur_pattern : List XO := [(.mv (.t 2))]
theorem c_sl1Cur_pattern : convF Try.prog [169, 170, 207, 208, 210, 227, 232, 233, 255, 259, 268, 269, 270, 280, 281, 296, 299, 306, 307, 309] Try.f309 [([0], []), ([0, 3], []), ([0, 3, 8], []), ([3], []), ([2], [])] = some (x_sl1Cur_pattern, r_sl1Cur_pattern) := by kernel_rfl
def us_sl1Cur_pattern := aI @u309_0 (aI @u309_1 (aI @u309_2 (aI @u309_3 @u309_4)))
abbrev b269_1 : X := (.cond (.t 14) .skip (.exit 0))
def t269_1 := b269_1
theorem u269_1 : vcK P t269_1 k e w = vcK P b269_1 k e w := rfl
abbrev b269_2 : X := (.reg [0, 1, 7, 8] (.c (.q 15 [] (.mv (.t 8))) (.c (.q 16 [] (.bin .sub (.t 15) (.c (.int .i64 1)))) (.c (.q 8 [] (.mv (.t 16))) .nil))))
def t269_2 := b269_2
theorem u269_2 : vcK P t269_2 k e w = vcK P b269_2 k e w := rfl
abbrev b269_3 : X := (.seq (.blk 1 (.reg [0, 1, 7, 8] (.c (.q 17 [] (.mv (.t 7))) (.c (.q 18 [] (.mv (.t 0))) (.c (.q 19 [] (.mv (.t 1))) (.c (.e (some 20) [] (.call true 232 [(.t 18), (.t 19)])) (.c (.e (some 21) [] (.bsl 9 1 [(.t 20)])) (.c (.e (some 22) [] (.app 27 9 1 16 [(S [])] 27 (.t 17) (.t 21))) (.c (.q 7 [] (.mv (.t 22))) .nil))))))))) t269_2)
def t269_3 := b269_3
theorem u269_3 : vcK P t269_3 k e w = vcK P b269_3 k e w := rfl
abbrev b269_4 : X := (.seq (.seq (.reg [0, 1, 7, 8, 14] (.c (.q 13 [] (.mv (.t 8))) (.c (.q 14 [] (.bin .gtr (.t 13) (.c (.int .i64 0)))) .nil))) t269_1) t269_3)
def t269_4 := b269_4
theorem u269_4 : vcK P t269_4 k e w = vcK P b269_4 k e w := rfl
abbrev b269_5 : X := (.blk 0 (.loop [7, 8] [0, 1] t269_4))
def t269_5 := b269_5
theorem u269_5 : vcK P t269_5 k e w = vcK P b269_5 k e w := rfl
abbrev b269_6 : X := (.cond (.t 29) (.reg [7] (.c (.q 30 [] (.mv (.t 7))) (.c (.q 31 [] (.ia 1 (.t 30) (.c (.int .i64 0)))) (.c (.e none [] (.st 1 (.t 31) (.s [49]))) .nil)))) .skip)
def t269_6 := b269_6
theorem u269_6 : vcK P t269_6 k e w = vcK P b269_6 k e w := rfl
abbrev b269_7 : X := (.seq (.reg [6] (.c (.q 32 [] (.mv (.t 7))) (.c (.q 6 [] (.mv (.t 32))) .nil))) .ret)
def t269_7 := b269_7
theorem u269_7 : vcK P t269_7 k e w = vcK P b269_7 k e w := rfl
abbrev b269_8 : X := (.seq (.seq (.reg [7, 29] (.c (.q 23 [] (.mv (.t 7))) (.c (.q 24 [] (.lens (.t 23))) (.c (.q 25 [] (.bin .gtr (.t 24) (.c (.int .i64 0)))) (.c (.q 26 [] (.mv (.t 25))) (.c (.q 27 [(26, true)] (.mv (.t 0))) (.c (.e (some 28) [(26, true)] (.call true 207 [(.t 27), (.c (.int .i64 25))])) (.c (.q 29 [] (.pick (.t 26) (.t 28) (.c (.bool false)))) .nil)))))))) t269_6) t269_7)
def t269_8 := b269_8
theorem u269_8 : vcK P t269_8 k e w = vcK P b269_8 k e w := rfl
abbrev b269_9 : X := (.seq (.seq (.reg [0, 1, 7, 8] (.c (.q 9 [] (.mv (.t 0))) (.c (.q 10 [] (.mv (.t 2))) (.c (.q 11 [] (.bin .add (.t 10) (.c (.int .i64 1)))) (.c (.e (some 12) [] (.call true 170 [(.t 9), (.t 11)])) (.c (.q 8 [] (.mv (.t 12))) .nil)))))) t269_5) t269_8)
def t269_9 := b269_9
theorem u269_9 : vcK P t269_9 k e w = vcK P b269_9 k e w := rfl
abbrev b269_10 : X := (.seq (.reg [0, 1, 2, 7] (.c (.q 7 [] (.mv (.c (.slice none 0 0)))) .nil)) t269_9)
def t269_10 := b269_10
theorem u269_10 : vcK P t269_10 k e w = vcK P b269_10 k e w := rfl
abbrev b269_0 : X := (.seq (.reg [0, 1, 2] (.c (.q 6 [] (.mv (.c (.slice none 0 0)))) .nil)) t269_10)
def x_sl1Cur_rowsOf := b269_0
theorem u269_0 : vcK P x_sl1Cur_rowsOf k e w = vcK P b269_0 k e w := rfl
def r_sl1Cur_rowsOf : List XO := [(.mv (.t 6))]
theorem c_sl1Cur_rowsOf : convF Try.prog [169, 170, 207, 208, 210, 227, 232, 233, 255, 259, 268, 269, 270, 280, 281, 296, 299, 306, 307, 309] Try.f269 [([0, 1, 2], []), ([0, 1, 2, 7], []), ([0, 1, 7, 8], []), ([7, 8], [0, 1]), ([0, 1, 7, 8, 14], []), ([0, 1, 7, 8], []), ([0, 1, 7, 8], []), ([7, 29], []), ([7], []), ([6], [])] = some (x_sl1Cur_rowsOf, r_sl1Cur_rowsOf) := by kernel_rfl
def us_sl1Cur_rowsOf := aI @u269_0 (aI @u269_1 (aI @u269_2 (aI @u269_3 (aI @u269_4 (aI @u269_5 (aI @u269_6 (aI @u269_7 (aI @u269_8 (aI @u269_9 @u269_10)))))))))
end

theorem sl1Cur_pattern_ok (W : World) (b n : Nat) (w : World) (hn : n ≤ 700000000) (hc : Cur W b n w) : CurFn 309 [cV b] W b n 40 w (fun r _ => ∃ x, r = S x ∧ x.length ≤ 20) := by
  (refine callsV_of mix Try.func309 c_sl1Cur_pattern ?_; simp only [↓vsd, vsn, gW, qd, qv, ev, pick, argE, zipE, ne_eq, eq_self, forall_const, implies_true, if_true, if_false, reduceIte, reduceCtorEq, Nat.reduceEqDiff, Nat.reduceAdd, Nat.reduceLT, ↓us_sl1Cur_pattern, r_sl1Cur_pattern])
  refine m_bsl (fun p hp => by simp only [List.mem_cons, List.not_mem_nil, or_false] at hp; rcases hp with rfl | rfl | rfl | rfl | rfl | rfl | rfl | rfl | rfl | rfl | rfl | rfl <;> rfl) ?_
  rintro b1 w1 hb1 hblk1 hx1 hs1
  have hlt := hc.lt
  simp only [↓vsd, vsn, gW, qd, qv, ev, pick, argE, zipE, ne_eq, eq_self, forall_const, implies_true, if_true, if_false, reduceIte, reduceCtorEq, Nat.reduceEqDiff, Nat.reduceAdd, Nat.reduceLT, ↓us_sl1Cur_pattern, r_sl1Cur_pattern]
  refine m_callw (.inl rfl) (sl1Cur_of_ok W b n _ [[42], [49, 42], [42, 52, 54], [63, 63, 50, 49, 42], [42, 49, 50, 51, 42], [49, 63, 51, 63], [42, 52, 63], [49, 50, 42], [42, 51, 50, 49], [53, 42, 49, 42], [63, 63, 63, 63], [42, 50, 42]] w1 (by omega) (by decide) (hc.ext hx1) (Sq.litC _ _ fS_len hblk1 rfl rfl (by omega))) ?_
  rintro _ w2 ⟨hc2, hg2, x, rfl, hx⟩
  simp only [↓vsd, vsn, gW, qd, qv, ev, pick, argE, zipE, ne_eq, eq_self, forall_const, implies_true, if_true, if_false, reduceIte, reduceCtorEq, Nat.reduceEqDiff, Nat.reduceAdd, Nat.reduceLT, ↓us_sl1Cur_pattern, r_sl1Cur_pattern]
  have hx5 : x.length ≤ 5 := (by decide : ∀ x ∈ ([[42], [49, 42], [42, 52, 54], [63, 63, 50, 49, 42], [42, 49, 50, 51, 42], [49, 63, 51, 63], [42, 52, 63], [49, 50, 42], [42, 51, 50, 49], [53, 42, 49, 42], [63, 63, 63, 63], [42, 50, 42]] : List (List UInt8)), x.length ≤ 5) x hx
  refine m_callw (.inl rfl) (sl1Cur_one_ok W b _ 6 (by omega) w2 (by omega) hc2) ?_
  rintro _ w3 ⟨hc3, hg3, y, rfl⟩
  have hg13 := grown_trans (grown_trans (grown_ext _ hx1) hg2) hg3
  cases y
  · simp only [↓vsd, vsn, gW, qd, qv, ev, pick, argE, zipE, ne_eq, eq_self, forall_const, implies_true, if_true, if_false, reduceIte, reduceCtorEq, Nat.reduceEqDiff, Nat.reduceAdd, Nat.reduceLT, ↓us_sl1Cur_pattern, r_sl1Cur_pattern]
    exact ⟨hc3.mono (by omega), hg13, _, rfl, by omega⟩
  · simp only [↓vsd, vsn, gW, qd, qv, ev, pick, argE, zipE, ne_eq, eq_self, forall_const, implies_true, if_true, if_false, reduceIte, reduceCtorEq, Nat.reduceEqDiff, Nat.reduceAdd, Nat.reduceLT, ↓us_sl1Cur_pattern, r_sl1Cur_pattern]
    refine m_callw (.inl rfl) (sl1Cur_spoilt_ok W b _ x [49, 50, 42, 63, 57] w3 (by omega) (by omega) (by decide) hc3) ?_
    rintro _ w4 ⟨hc4, hg4, y, rfl, hy⟩
    simp only [↓vsd, vsn, gW, qd, qv, ev, pick, argE, zipE, ne_eq, eq_self, forall_const, implies_true, if_true, if_false, reduceIte, reduceCtorEq, Nat.reduceEqDiff, Nat.reduceAdd, Nat.reduceLT, ↓us_sl1Cur_pattern, r_sl1Cur_pattern]
    exact ⟨hc4.mono (by omega), grown_trans hg13 hg4, _, rfl, by omega⟩
/-- Blocks that are new may be written besides. -/
theorem sl1Cur_rowsOf_ok (W : World) (b n s : Nat) (hs : 3 ≤ s ∧ s ≤ 8) (m : Nat) (hm : m ≤ 100) (w : World) (hn : n ≤ 700000000) (hc : Cur W b n w) : CurFn 269 [cV b, .int .i64 s, .int .i64 m] W b n 1000 w (fun r w' => ∃ l : List (List UInt8), Own fS 1 9 w.heap.size w' r l ∧ l.length ≤ 100) := by
  (refine callsV_of mix Try.func269 c_sl1Cur_rowsOf ?_; simp only [↓vsd, vsn, gW, qd, qv, ev, pick, argE, zipE, ne_eq, eq_self, forall_const, implies_true, if_true, if_false, reduceIte, reduceCtorEq, Nat.reduceEqDiff, Nat.reduceAdd, Nat.reduceLT, ↓us_sl1Cur_rowsOf, r_sl1Cur_rowsOf])
  have hlt := hc.lt
  refine ⟨inR_i64 (by omega), m_callw (.inl rfl) (sl1Cur_pick_ok W b n (m + 1) (by omega) w (by omega) hc) ?_⟩
  rintro _ w1 ⟨hc1, hg1, x, rfl, hx⟩
  simp only [↓vsd, vsn, gW, qd, qv, ev, pick, argE, zipE, ne_eq, eq_self, forall_const, implies_true, if_true, if_false, reduceIte, reduceCtorEq, Nat.reduceEqDiff, Nat.reduceAdd, Nat.reduceLT, ↓us_sl1Cur_rowsOf, r_sl1Cur_rowsOf]
  refine m_loop (fun j vs w' => ∃ (v : Value) (l : List (List UInt8)), vs = [v, .int .i64 j] ∧ j ≤ 100 ∧ l.length + j ≤ 100 ∧ Own fS 1 9 w.heap.size w' v l ∧ Cur W b (n + 202 - 2 * j) w' ∧ w.grownBy w' (some b)) x ⟨_, [], rfl, by omega, by simp; omega, Own.nil fS_len, hc1.mono (by omega), hg1⟩ ?_
  rintro j vs w2 ⟨v, l, rfl, hj, hl, ho, hc2, hg2⟩
  have hBb : ∀ c, some b = some c → c < w.heap.size := fun c hc => by obtain rfl := Option.some.inj hc; exact hlt.2
  by_cases hj0 : 0 < j
  · have hjI : 0 < (j : Int) := by omega
    have hjJ : ¬ (j : Int) ≤ 0 := by omega
    simp only [↓vsd, vsn, gW, qd, qv, ev, pick, argE, zipE, ne_eq, eq_self, forall_const, implies_true, if_true, if_false, reduceIte, reduceCtorEq, Nat.reduceEqDiff, Nat.reduceAdd, Nat.reduceLT, ↓us_sl1Cur_rowsOf, r_sl1Cur_rowsOf, hjI, hjJ]
    refine m_callw (.inl rfl) (sl1Cur_row_ok W b _ s hs w2 (by omega) hc2) ?_
    rintro _ w3 ⟨hc3, hg3, y, rfl, hy⟩
    have ho3 := ho.keep hg3 hBb
    simp only [↓vsd, vsn, gW, qd, qv, ev, pick, argE, zipE, ne_eq, eq_self, forall_const, implies_true, if_true, if_false, reduceIte, reduceCtorEq, Nat.reduceEqDiff, Nat.reduceAdd, Nat.reduceLT, ↓us_sl1Cur_rowsOf, r_sl1Cur_rowsOf]
    refine m_bsl (one_el rfl) ?_
    rintro b4 w4 hb4 hblk4 hx4 hs4
    simp only [↓vsd, vsn, gW, qd, qv, ev, pick, argE, zipE, ne_eq, eq_self, forall_const, implies_true, if_true, if_false, reduceIte, reduceCtorEq, Nat.reduceEqDiff, Nat.reduceAdd, Nat.reduceLT, ↓us_sl1Cur_rowsOf, r_sl1Cur_rowsOf]
    have hg24 := grown_trans (grown_trans hg2 hg3) (grown_ext _ hx4)
    refine m_app (ho3.ext hx4) (Sq.one fS_len hblk4 rfl) fS_one (by decide) (by simp; omega) (by decide) hg24.size ?_
    rintro v5 w5 ho5 hg5
    simp only [↓vsd, vsn, gW, qd, qv, ev, pick, argE, zipE, ne_eq, eq_self, forall_const, implies_true, if_true, if_false, reduceIte, reduceCtorEq, Nat.reduceEqDiff, Nat.reduceAdd, Nat.reduceLT, ↓us_sl1Cur_rowsOf, r_sl1Cur_rowsOf]
    have hbnd := (ho3.ext hx4).bound
    refine ⟨inR_i64 (by omega), j - 1, by omega, v5, l ++ [y], ⟨rfl, by rw [show ((j : Int) - 1) = ((j - 1 : Nat) : Int) by omega]⟩, by omega, by simp; omega, ho5, ((hc3.ext hx4).keep hg5 (fun c hc => by have := (hbnd c hc).1; omega)).mono (by omega), grown_new hg24 hg5 (fun c hc => (hbnd c hc).1)⟩
  · have hjI : ¬ 0 < (j : Int) := by omega
    simp only [↓vsd, vsn, gW, qd, qv, ev, pick, argE, zipE, ne_eq, eq_self, forall_const, implies_true, if_true, if_false, reduceIte, reduceCtorEq, Nat.reduceEqDiff, Nat.reduceAdd, Nat.reduceLT, ↓us_sl1Cur_rowsOf, r_sl1Cur_rowsOf, hjI, ho.sq.facts]
    refine ⟨fun hpos => m_callw (.inl rfl) (sl1Cur_one_ok W b _ 25 (by omega) w2 (by omega) hc2) ?_, fun _ => ⟨hc2.mono (by omega), hg2, l, ho, by omega⟩⟩
    rintro _ w3 ⟨hc3, hg3, y, rfl⟩
    have ho3 := ho.keep hg3 hBb
    have hg13 := grown_trans hg2 hg3
    cases y
    · simp only [↓vsd, vsn, gW, qd, qv, ev, pick, argE, zipE, ne_eq, eq_self, forall_const, implies_true, if_true, if_false, reduceIte, reduceCtorEq, Nat.reduceEqDiff, Nat.reduceAdd, Nat.reduceLT, ↓us_sl1Cur_rowsOf, r_sl1Cur_rowsOf, hpos]
      exact ⟨hc3.mono (by omega), hg13, l, ho3, by omega⟩
    · simp only [↓vsd, vsn, gW, qd, qv, ev, pick, argE, zipE, ne_eq, eq_self, forall_const, implies_true, if_true, if_false, reduceIte, reduceCtorEq, Nat.reduceEqDiff, Nat.reduceAdd, Nat.reduceLT, ↓us_sl1Cur_rowsOf, r_sl1Cur_rowsOf, ho3.sq.facts, hpos]
      refine ⟨by omega, m_set1 0 [49] ho3 rfl (by omega) rfl fS_one ?_⟩
      rintro w4 ho4 hg4 hs4
      simp only [↓vsd, vsn, gW, qd, qv, ev, pick, argE, zipE, ne_eq, eq_self, forall_const, implies_true, if_true, if_false, reduceIte, reduceCtorEq, Nat.reduceEqDiff, Nat.reduceAdd, Nat.reduceLT, ↓us_sl1Cur_rowsOf, r_sl1Cur_rowsOf]
      have hbnd := ho3.bound
      exact ⟨(hc3.keep hg4 (fun c hc => by have := (hbnd c hc).1; omega)).mono (by omega), grown_new hg13 hg4 (fun c hc => (hbnd c hc).1), _, ho4, by rw [List.length_set]; omega⟩
end Go.Proofs.Ytpnopboffalfnaa
