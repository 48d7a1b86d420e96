/-
  The drawing of patterns and lists of rows: the cursor's part.
  Conditions: none.
-/
import Derived.Test.YtnincmnkdjlndaaD2
set_option linter.unusedSimpArgs false
set_option linter.unusedVariables false
set_option linter.defProp false
namespace Go.Proofs.Ytnincmnkdjlndaa
open Go Go.RowKit
section
variable (P : Program) (k : KT) (e : Env) (w : World)
abbrev b233_1 : X := (.cond (.t 14) .skip (.exit 0))
def t233_1 := b233_1
theorem u233_1 : vcK P t233_1 k e w = vcK P b233_1 k e w := rfl
abbrev b233_2 : X := (.reg [0, 1, 7, 8] (.c (.q 15 [] (.mv (.t 8))) (.c (.q 16 [] (.bin .sub (.t 15) (.c (.int .i64 1)))) (.c (.q 8 [] (.mv (.t 16))) .nil))))
def t233_2 := b233_2
theorem u233_2 : vcK P t233_2 k e w = vcK P b233_2 k e w := rfl
abbrev b233_3 : X := (.seq (.blk 1 (.reg [0, 1, 7, 8] (.c (.q 17 [] (.mv (.t 7))) (.c (.q 18 [] (.mv (.t 0))) (.c (.q 19 [] (.mv (.t 1))) (.c (.e (some 20) [] (.call true 178 [(.t 18), (.t 19)])) (.c (.e (some 21) [] (.bsl 9 1 [(.t 20)])) (.c (.e (some 22) [] (.app 24 9 1 16 [(S [])] 24 (.t 17) (.t 21))) (.c (.q 7 [] (.mv (.t 22))) .nil))))))))) t233_2)
def t233_3 := b233_3
theorem u233_3 : vcK P t233_3 k e w = vcK P b233_3 k e w := rfl
abbrev b233_4 : X := (.seq (.seq (.reg [0, 1, 7, 8, 14] (.c (.q 13 [] (.mv (.t 8))) (.c (.q 14 [] (.bin .gtr (.t 13) (.c (.int .i64 0)))) .nil))) t233_1) t233_3)
def t233_4 := b233_4
theorem u233_4 : vcK P t233_4 k e w = vcK P b233_4 k e w := rfl
abbrev b233_5 : X := (.blk 0 (.loop [7, 8] [0, 1] t233_4))
def t233_5 := b233_5
theorem u233_5 : vcK P t233_5 k e w = vcK P b233_5 k e w := rfl
abbrev b233_6 : X := (.cond (.t 29) (.reg [7] (.c (.q 30 [] (.mv (.t 7))) (.c (.q 31 [] (.ia 1 (.t 30) (.c (.int .i64 0)))) (.c (.e none [] (.st 1 (.t 31) (.s [49]))) .nil)))) .skip)
def t233_6 := b233_6
theorem u233_6 : vcK P t233_6 k e w = vcK P b233_6 k e w := rfl
abbrev b233_7 : X := (.seq (.reg [6] (.c (.q 32 [] (.mv (.t 7))) (.c (.q 6 [] (.mv (.t 32))) .nil))) .ret)
def t233_7 := b233_7
theorem u233_7 : vcK P t233_7 k e w = vcK P b233_7 k e w := rfl
abbrev b233_8 : X := (.seq (.seq (.reg [7, 29] (.c (.q 23 [] (.mv (.t 7))) (.c (.q 24 [] (.lens (.t 23))) (.c (.q 25 [] (.bin .gtr (.t 24) (.c (.int .i64 0)))) (.c (.q 26 [] (.mv (.t 25))) (.c (.q 27 [(26, true)] (.mv (.t 0))) (.c (.e (some 28) [(26, true)] (.call true 160 [(.t 27), (.c (.int .i64 25))])) (.c (.q 29 [] (.pick (.t 26) (.t 28) (.c (.bool false)))) .nil)))))))) t233_6) t233_7)
def t233_8 := b233_8
theorem u233_8 : vcK P t233_8 k e w = vcK P b233_8 k e w := rfl
abbrev b233_9 : X := (.seq (.seq (.reg [0, 1, 7, 8] (.c (.q 9 [] (.mv (.t 0))) (.c (.q 10 [] (.mv (.t 2))) (.c (.q 11 [] (.bin .add (.t 10) (.c (.int .i64 1)))) (.c (.e (some 12) [] (.call true 148 [(.t 9), (.t 11)])) (.c (.q 8 [] (.mv (.t 12))) .nil)))))) t233_5) t233_8)
def t233_9 := b233_9
theorem u233_9 : vcK P t233_9 k e w = vcK P b233_9 k e w := rfl
abbrev b233_10 : X := (.seq (.reg [0, 1, 2, 7] (.c (.q 7 [] (.mv (.c (.slice none 0 0)))) .nil)) t233_9)
def t233_10 := b233_10
theorem u233_10 : vcK P t233_10 k e w = vcK P b233_10 k e w := rfl
abbrev b233_0 : X := (.seq (.reg [0, 1, 2] (.c (.q 6 [] (.mv (.c (.slice none 0 0)))) .nil)) t233_10)
def x_sl1Cur_rowsOf := b233_0
theorem u233_0 : vcK P x_sl1Cur_rowsOf k e w = vcK P b233_0 k e w := rfl
def r_sl1Cur_rowsOf : List XO := [(.mv (.t 6))]
theorem c_sl1Cur_rowsOf : convF Try.prog [147, 148, 152, 160, 162, 163, 170, 178, 206, 208, 210, 224, 233, 235, 236, 251, 264, 265, 268, 270, 287, 322] Try.f233 [([0, 1, 2], []), ([0, 1, 2, 7], []), ([0, 1, 7, 8], []), ([7, 8], [0, 1]), ([0, 1, 7, 8, 14], []), ([0, 1, 7, 8], []), ([0, 1, 7, 8], []), ([7, 29], []), ([7], []), ([6], [])] = some (x_sl1Cur_rowsOf, r_sl1Cur_rowsOf) := by kernel_rfl
def us_sl1Cur_rowsOf :=  (aI (aI (aI @u233_0 @u233_1) (aI @u233_2 (aI @u233_3 @u233_4))) (aI (aI @u233_5 (aI @u233_6 @u233_7)) (aI @u233_8 (aI @u233_9 @u233_10))))
end

/-- Blocks that are new may be written besides. -/
theorem sl1Cur_rowsOf_ok (W : World) (b n s : Nat) (hs : 3 ≤ s ∧ s ≤ 8) (m : Nat) (hm : m ≤ 100) (w : World) (hn : n ≤ 700000000) (hc : Cur W b n w) : CurFn 233 [cV b, .int .i64 s, .int .i64 m] W b n 1000 w (fun r w' => ∃ l : List (List UInt8), Own fS 1 9 w.heap.size w' r l ∧ l.length ≤ 100) := by
  (refine callsV_of mix Try.func233 c_sl1Cur_rowsOf ?_; simp only [↓vsd, vsn, gW, qd, qv, ev, pick, argE, zipE, ne_eq, eq_self, forall_const, implies_true, if_true, if_false, reduceIte, reduceCtorEq, Nat.reduceEqDiff, Nat.reduceAdd, Nat.reduceLT, ↓us_sl1Cur_rowsOf, r_sl1Cur_rowsOf])
  have hlt := hc.lt
  refine ⟨inR_i64 (by omega), m_callw (.inl rfl) (sl1Cur_pick_ok W b n (m + 1) (by omega) w (by omega) hc) ?_⟩
  rintro _ w1 ⟨hc1, hg1, x, rfl, hx⟩
  simp only [↓vsd, vsn, gW, qd, qv, ev, pick, argE, zipE, ne_eq, eq_self, forall_const, implies_true, if_true, if_false, reduceIte, reduceCtorEq, Nat.reduceEqDiff, Nat.reduceAdd, Nat.reduceLT, ↓us_sl1Cur_rowsOf, r_sl1Cur_rowsOf]
  refine m_loop (fun j vs w' => ∃ (v : Value) (l : List (List UInt8)), vs = [v, .int .i64 j] ∧ j ≤ 100 ∧ l.length + j ≤ 100 ∧ Own fS 1 9 w.heap.size w' v l ∧ Cur W b (n + 202 - 2 * j) w' ∧ w.grownBy w' (some b)) x ⟨_, [], rfl, by omega, by simp; omega, Own.nil fS_len, hc1.mono (by omega), hg1⟩ ?_
  rintro j vs w2 ⟨v, l, rfl, hj, hl, ho, hc2, hg2⟩
  have hBb : ∀ c, some b = some c → c < w.heap.size := fun c hc => by obtain rfl := Option.some.inj hc; exact hlt.2
  by_cases hj0 : 0 < j
  · have hjI : 0 < (j : Int) := by omega
    have hjJ : ¬ (j : Int) ≤ 0 := by omega
    simp only [↓vsd, vsn, gW, qd, qv, ev, pick, argE, zipE, ne_eq, eq_self, forall_const, implies_true, if_true, if_false, reduceIte, reduceCtorEq, Nat.reduceEqDiff, Nat.reduceAdd, Nat.reduceLT, ↓us_sl1Cur_rowsOf, r_sl1Cur_rowsOf, hjI, hjJ]
    refine m_callw (.inl rfl) (sl1Cur_row_ok W b _ s hs w2 (by omega) hc2) ?_
    rintro _ w3 ⟨hc3, hg3, y, rfl, hy⟩
    have ho3 := ho.keep hg3 hBb
    simp only [↓vsd, vsn, gW, qd, qv, ev, pick, argE, zipE, ne_eq, eq_self, forall_const, implies_true, if_true, if_false, reduceIte, reduceCtorEq, Nat.reduceEqDiff, Nat.reduceAdd, Nat.reduceLT, ↓us_sl1Cur_rowsOf, r_sl1Cur_rowsOf]
    refine m_bsl (one_el rfl) ?_
    rintro b4 w4 hb4 hblk4 hx4 hs4
    simp only [↓vsd, vsn, gW, qd, qv, ev, pick, argE, zipE, ne_eq, eq_self, forall_const, implies_true, if_true, if_false, reduceIte, reduceCtorEq, Nat.reduceEqDiff, Nat.reduceAdd, Nat.reduceLT, ↓us_sl1Cur_rowsOf, r_sl1Cur_rowsOf]
    have hg24 := grown_trans (grown_trans hg2 hg3) (grown_ext _ hx4)
    refine m_app (ho3.ext hx4) (Sq.one fS_len hblk4 rfl) fS_one (by decide) (by simp; omega) (by decide) hg24.size ?_
    rintro v5 w5 ho5 hg5
    simp only [↓vsd, vsn, gW, qd, qv, ev, pick, argE, zipE, ne_eq, eq_self, forall_const, implies_true, if_true, if_false, reduceIte, reduceCtorEq, Nat.reduceEqDiff, Nat.reduceAdd, Nat.reduceLT, ↓us_sl1Cur_rowsOf, r_sl1Cur_rowsOf]
    have hbnd := (ho3.ext hx4).bound
    refine ⟨inR_i64 (by omega), j - 1, by omega, v5, l ++ [y], ⟨rfl, by rw [show ((j : Int) - 1) = ((j - 1 : Nat) : Int) by omega]⟩, by omega, by simp; omega, ho5, ((hc3.ext hx4).keep hg5 (fun c hc => by have := (hbnd c hc).1; omega)).mono (by omega), grown_new hg24 hg5 (fun c hc => (hbnd c hc).1)⟩
  · have hjI : ¬ 0 < (j : Int) := by omega
    simp only [↓vsd, vsn, gW, qd, qv, ev, pick, argE, zipE, ne_eq, eq_self, forall_const, implies_true, if_true, if_false, reduceIte, reduceCtorEq, Nat.reduceEqDiff, Nat.reduceAdd, Nat.reduceLT, ↓us_sl1Cur_rowsOf, r_sl1Cur_rowsOf, hjI, ho.sq.facts]
    refine ⟨fun hpos => m_callw (.inl rfl) (sl1Cur_one_ok W b _ 25 (by omega) w2 (by omega) hc2) ?_, fun _ => ⟨hc2.mono (by omega), hg2, l, ho, by omega⟩⟩
    rintro _ w3 ⟨hc3, hg3, y, rfl⟩
    have ho3 := ho.keep hg3 hBb
    have hg13 := grown_trans hg2 hg3
    cases y
    · simp only [↓vsd, vsn, gW, qd, qv, ev, pick, argE, zipE, ne_eq, eq_self, forall_const, implies_true, if_true, if_false, reduceIte, reduceCtorEq, Nat.reduceEqDiff, Nat.reduceAdd, Nat.reduceLT, ↓us_sl1Cur_rowsOf, r_sl1Cur_rowsOf, hpos]
      exact ⟨hc3.mono (by omega), hg13, l, ho3, by omega⟩
    · simp only [↓vsd, vsn, gW, qd, qv, ev, pick, argE, zipE, ne_eq, eq_self, forall_const, implies_true, if_true, if_false, reduceIte, reduceCtorEq, Nat.reduceEqDiff, Nat.reduceAdd, Nat.reduceLT, ↓us_sl1Cur_rowsOf, r_sl1Cur_rowsOf, ho3.sq.facts, hpos]
      refine ⟨by omega, m_set1 0 [49] ho3 rfl (by omega) rfl fS_one ?_⟩
      rintro w4 ho4 hg4 hs4
      simp only [↓vsd, vsn, gW, qd, qv, ev, pick, argE, zipE, ne_eq, eq_self, forall_const, implies_true, if_true, if_false, reduceIte, reduceCtorEq, Nat.reduceEqDiff, Nat.reduceAdd, Nat.reduceLT, ↓us_sl1Cur_rowsOf, r_sl1Cur_rowsOf]
      have hbnd := ho3.bound
      exact ⟨(hc3.keep hg4 (fun c hc => by have := (hbnd c hc).1; omega)).mono (by omega), grown_new hg13 hg4 (fun c hc => (hbnd c hc).1), _, ho4, by rw [List.length_set]; omega⟩
end Go.Proofs.Ytnincmnkdjlndaa
