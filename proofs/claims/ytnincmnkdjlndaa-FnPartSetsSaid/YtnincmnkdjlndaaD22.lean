/-
  The drawing of calls and touches.
  Conditions: none.
-/
import Derived.Test.YtnincmnkdjlndaaD15
import Derived.Test.YtnincmnkdjlndaaA17
set_option linter.unusedSimpArgs false
set_option linter.unusedVariables false
set_option linter.defProp false
namespace Go.Proofs.Ytnincmnkdjlndaa
open Go Go.RowKit
section
variable (P : Program) (k : KT) (e : Env) (w : World)
abbrev b322_1 : X := (.cond (.t 12) .skip (.exit 0))
def t322_1 := b322_1
theorem u322_1 : vcK P t322_1 k e w = vcK P b322_1 k e w := rfl
abbrev b322_2 : X := (.reg [0, 5, 6] (.c (.q 13 [] (.mv (.t 6))) (.c (.q 14 [] (.bin .sub (.t 13) (.c (.int .i64 1)))) (.c (.q 6 [] (.mv (.t 14))) .nil))))
def t322_2 := b322_2
theorem u322_2 : vcK P t322_2 k e w = vcK P b322_2 k e w := rfl
abbrev b322_3 : X := (.seq (.blk 1 (.reg [0, 5, 6] (.c (.q 15 [] (.mv (.t 5))) (.c (.q 16 [] (.mv (.t 0))) (.c (.e (some 17) [] (.bsl 9 1 [(.s [112]), (.s [112]), (.s [98]), (.s [115]), (.s [98])])) (.c (.e (some 18) [] (.call true 163 [(.t 16), (.t 17)])) (.c (.q 19 [] (.bin .add (.t 15) (.t 18))) (.c (.q 5 [] (.mv (.t 19))) .nil)))))))) t322_2)
def t322_3 := b322_3
theorem u322_3 : vcK P t322_3 k e w = vcK P b322_3 k e w := rfl
abbrev b322_4 : X := (.seq (.seq (.reg [0, 5, 6, 12] (.c (.q 11 [] (.mv (.t 6))) (.c (.q 12 [] (.bin .gtr (.t 11) (.c (.int .i64 0)))) .nil))) t322_1) t322_3)
def t322_4 := b322_4
theorem u322_4 : vcK P t322_4 k e w = vcK P b322_4 k e w := rfl
abbrev b322_5 : X := (.blk 0 (.loop [5, 6] [0] t322_4))
def t322_5 := b322_5
theorem u322_5 : vcK P t322_5 k e w = vcK P b322_5 k e w := rfl
abbrev b322_6 : X := (.cond (.t 21) (.reg [5] (.c (.q 22 [] (.mv (.t 5))) (.c (.q 23 [] (.mv (.t 5))) (.c (.q 24 [] (.bin .add (.t 22) (.t 23))) (.c (.q 5 [] (.mv (.t 24))) .nil))))) .skip)
def t322_6 := b322_6
theorem u322_6 : vcK P t322_6 k e w = vcK P b322_6 k e w := rfl
abbrev b322_7 : X := (.seq (.reg [4] (.c (.q 25 [] (.mv (.t 5))) (.c (.q 4 [] (.mv (.t 25))) .nil))) .ret)
def t322_7 := b322_7
theorem u322_7 : vcK P t322_7 k e w = vcK P b322_7 k e w := rfl
abbrev b322_8 : X := (.seq (.seq (.reg [5, 21] (.c (.q 20 [] (.mv (.t 0))) (.c (.e (some 21) [] (.call true 160 [(.t 20), (.c (.int .i64 3))])) .nil))) t322_6) t322_7)
def t322_8 := b322_8
theorem u322_8 : vcK P t322_8 k e w = vcK P b322_8 k e w := rfl
abbrev b322_9 : X := (.seq (.seq (.reg [0, 5, 6] (.c (.q 7 [] (.mv (.t 0))) (.c (.q 8 [] (.mv (.t 1))) (.c (.e (some 9) [] (.call true 148 [(.t 7), (.t 8)])) (.c (.q 10 [] (.bin .add (.c (.int .i64 1)) (.t 9))) (.c (.q 6 [] (.mv (.t 10))) .nil)))))) t322_5) t322_8)
def t322_9 := b322_9
theorem u322_9 : vcK P t322_9 k e w = vcK P b322_9 k e w := rfl
abbrev b322_10 : X := (.seq (.reg [0, 1, 5] (.c (.q 5 [] (.mv (.s []))) .nil)) t322_9)
def t322_10 := b322_10
theorem u322_10 : vcK P t322_10 k e w = vcK P b322_10 k e w := rfl
abbrev b322_0 : X := (.seq (.reg [0, 1] (.c (.q 4 [] (.mv (.s []))) .nil)) t322_10)
def x_sl1Cur_touch := b322_0
theorem u322_0 : vcK P x_sl1Cur_touch k e w = vcK P b322_0 k e w := rfl
def r_sl1Cur_touch : List XO := [(.mv (.t 4))]
theorem c_sl1Cur_touch : convF Try.prog [147, 148, 152, 160, 162, 163, 170, 178, 206, 208, 210, 224, 233, 235, 236, 251, 264, 265, 268, 270, 287, 322] Try.f322 [([0, 1], []), ([0, 1, 5], []), ([0, 5, 6], []), ([5, 6], [0]), ([0, 5, 6, 12], []), ([0, 5, 6], []), ([0, 5, 6], []), ([5, 21], []), ([5], []), ([4], [])] = some (x_sl1Cur_touch, r_sl1Cur_touch) := by kernel_rfl
def us_sl1Cur_touch :=  (aI (aI (aI @u322_0 @u322_1) (aI @u322_2 (aI @u322_3 @u322_4))) (aI (aI @u322_5 (aI @u322_6 @u322_7)) (aI @u322_8 (aI @u322_9 @u322_10))))
abbrev b287_1 : X := (.cond (.t 18) .skip (.exit 1))
def t287_1 := b287_1
theorem u287_1 : vcK P t287_1 k e w = vcK P b287_1 k e w := rfl
abbrev b287_2 : X := (.reg [0, 3, 4] (.c (.q 19 [] (.mv (.t 4))) (.c (.q 20 [] (.bin .sub (.t 19) (.c (.int .i64 1)))) (.c (.q 4 [] (.mv (.t 20))) .nil))))
def t287_2 := b287_2
theorem u287_2 : vcK P t287_2 k e w = vcK P b287_2 k e w := rfl
abbrev b287_3 : X := (.seq (.blk 2 (.reg [0, 3, 4] (.c (.q 21 [] (.mv (.t 3))) (.c (.q 22 [] (.mv (.t 0))) (.c (.e (some 23) [] (.bsl 9 1 [(.s [112]), (.s [98]), (.s [115])])) (.c (.e (some 24) [] (.call true 163 [(.t 22), (.t 23)])) (.c (.q 25 [] (.bin .add (.t 21) (.t 24))) (.c (.q 3 [] (.mv (.t 25))) .nil)))))))) t287_2)
def t287_3 := b287_3
theorem u287_3 : vcK P t287_3 k e w = vcK P b287_3 k e w := rfl
abbrev b287_4 : X := (.seq (.seq (.reg [0, 3, 4, 18] (.c (.q 17 [] (.mv (.t 4))) (.c (.q 18 [] (.bin .gtr (.t 17) (.c (.int .i64 0)))) .nil))) t287_1) t287_3)
def t287_4 := b287_4
theorem u287_4 : vcK P t287_4 k e w = vcK P b287_4 k e w := rfl
abbrev b287_5 : X := (.blk 1 (.loop [3, 4] [0] t287_4))
def t287_5 := b287_5
theorem u287_5 : vcK P t287_5 k e w = vcK P b287_5 k e w := rfl
abbrev b287_6 : X := (.seq (.reg [2] (.c (.q 26 [] (.mv (.t 3))) (.c (.q 2 [] (.mv (.t 26))) .nil))) .ret)
def t287_6 := b287_6
theorem u287_6 : vcK P t287_6 k e w = vcK P b287_6 k e w := rfl
abbrev b287_7 : X := (.seq (.seq (.reg [0, 3, 4] (.c (.q 14 [] (.mv (.t 0))) (.c (.e (some 15) [] (.bsl 3 1 [(.c (.int .i64 59)), (.c (.int .i64 60)), (.c (.int .i64 61))])) (.c (.e (some 16) [] (.call true 235 [(.t 14), (.t 15)])) (.c (.q 4 [] (.mv (.t 16))) .nil))))) t287_5) t287_6)
def t287_7 := b287_7
theorem u287_7 : vcK P t287_7 k e w = vcK P b287_7 k e w := rfl
abbrev b287_8 : X := (.cond (.t 12) (.seq (.reg [0, 3] (.c (.q 3 [] (.mv (.s []))) .nil)) t287_7) .skip)
def t287_8 := b287_8
theorem u287_8 : vcK P t287_8 k e w = vcK P b287_8 k e w := rfl
abbrev b287_9 : X := (.cond (.t 7) (.seq (.reg [2] (.c (.q 9 [] (.mv (.t 0))) (.c (.e (some 10) [] (.bsl 9 1 [(.s []), (.s [120]), (.s [112, 66]), (.s [112, 32, 98])])) (.c (.e (some 11) [] (.call true 163 [(.t 9), (.t 10)])) (.c (.q 2 [] (.mv (.t 11))) .nil))))) .ret) (.seq (.reg [0, 12] (.c (.q 13 [] (.bin .eql (.t 6) (.c (.int .i64 1)))) (.c (.q 12 [] (.mv (.t 13))) .nil))) t287_8))
def t287_9 := b287_9
theorem u287_9 : vcK P t287_9 k e w = vcK P b287_9 k e w := rfl
abbrev b287_10 : X := (.blk 0 (.seq (.reg [0, 6, 7] (.c (.q 8 [] (.bin .eql (.t 6) (.c (.int .i64 0)))) (.c (.q 7 [] (.mv (.t 8))) .nil))) t287_9))
def t287_10 := b287_10
theorem u287_10 : vcK P t287_10 k e w = vcK P b287_10 k e w := rfl
abbrev b287_11 : X := (.seq (.reg [2] (.c (.q 27 [] (.mv (.t 0))) (.c (.e (some 28) [] (.call true 322 [(.t 27), (.c (.int .i64 9))])) (.c (.q 2 [] (.mv (.t 28))) .nil)))) .ret)
def t287_11 := b287_11
theorem u287_11 : vcK P t287_11 k e w = vcK P b287_11 k e w := rfl
abbrev b287_12 : X := (.seq (.seq (.reg [0, 6] (.c (.q 5 [] (.mv (.t 0))) (.c (.e (some 6) [] (.call true 148 [(.t 5), (.c (.int .i64 16))])) .nil))) t287_10) t287_11)
def t287_12 := b287_12
theorem u287_12 : vcK P t287_12 k e w = vcK P b287_12 k e w := rfl
abbrev b287_0 : X := (.seq (.reg [0] (.c (.q 2 [] (.mv (.s []))) .nil)) t287_12)
def x_sl1Cur_anyTouch := b287_0
theorem u287_0 : vcK P x_sl1Cur_anyTouch k e w = vcK P b287_0 k e w := rfl
def r_sl1Cur_anyTouch : List XO := [(.mv (.t 2))]
theorem c_sl1Cur_anyTouch : convF Try.prog [147, 148, 152, 160, 162, 163, 170, 178, 206, 208, 210, 224, 233, 235, 236, 251, 264, 265, 268, 270, 287, 322] Try.f287 [([0], []), ([0, 6], []), ([0, 6, 7], []), ([2], []), ([0, 12], []), ([0, 3], []), ([0, 3, 4], []), ([3, 4], [0]), ([0, 3, 4, 18], []), ([0, 3, 4], []), ([0, 3, 4], []), ([2], []), ([2], [])] = some (x_sl1Cur_anyTouch, r_sl1Cur_anyTouch) := by kernel_rfl
def us_sl1Cur_anyTouch :=  (aI (aI (aI @u287_0 (aI @u287_1 @u287_2)) (aI @u287_3 (aI @u287_4 @u287_5))) (aI (aI @u287_6 (aI @u287_7 @u287_8)) (aI (aI @u287_9 @u287_10) (aI @u287_11 @u287_12))))
end

/-- Calls in block b6, a result in block b4, a method in block b3. -/
structure QT (W : World) (b N : Nat) (w0 : World) (b3 b4 b6 : Nat) (cm : List Value) (p q : List UInt8) (w : World) : Prop where
  cur : Cur W b N w
  m : Blk w b3 cm 26
  res : Blk w b4 (fQ [] []) 100
  k : Blk w b6 (fQ p q) 100
  gr : w0.grownBy w (some b)
  lo : b < w0.heap.size ∧ w0.heap.size ≤ b3 ∧ b3 < b4 ∧ b4 < b6
section
variable {W : World} {b N M : Nat} {w0 : World} {b3 b4 b6 : Nat} {cm : List Value} {p q p' q' : List UInt8} {w w' : World}
theorem QT.draw (h : QT W b N w0 b3 b4 b6 cm p q w) (hc : Cur W b M w') (hg : w.grownBy w' (some b)) : QT W b M w0 b3 b4 b6 cm p q w' := by
  have hl := h.lo
  have key : ∀ c, c ≠ b → c < w.heap.size → w'.heap[c]? = w.heap[c]? := fun c hc hlt => hg.block c hlt (fun e => hc (Option.some.inj e))
  exact ⟨hc, h.m.same (key _ (by omega) h.m.lt), h.res.same (key _ (by omega) h.res.lt), h.k.same (key _ (by omega) h.k.lt), grown_trans h.gr hg, hl⟩
theorem QT.ext (h : QT W b N w0 b3 b4 b6 cm p q w) (hx : Ext w w') : QT W b N w0 b3 b4 b6 cm p q w' := h.draw (h.cur.ext hx) (grown_ext _ hx)
theorem QT.mono (h : QT W b N w0 b3 b4 b6 cm p q w) (hm : N ≤ M) : QT W b M w0 b3 b4 b6 cm p q w := ⟨h.cur.mono hm, h.m, h.res, h.k, h.gr, h.lo⟩
theorem QT.put (h : QT W b N w0 b3 b4 b6 cm p q w) (hu : Upd w w' b6) (hb : Blk w' b6 (fQ p' q') 100) : QT W b N w0 b3 b4 b6 cm p' q' w' := by
  have hl := h.lo
  exact ⟨h.cur.keep hu.grown (fun c hc => by have := Option.some.inj hc; omega), hu.blk h.m (by omega), hu.blk h.res (by omega), hb, grown_new h.gr hu.grown (fun c hc => by have := Option.some.inj hc; omega), hl⟩
end
theorem sl1Cur_touch_ok (W : World) (b n m : Nat) (hm : m ≤ 100) (w : World) (hn : n ≤ 700000000) (hc : Cur W b n w) : CurFn 322 [cV b, .int .i64 m] W b n 300 w (fun r _ => ∃ x, r = S x ∧ x.length ≤ 2 * (m + 1)) := by
  (refine callsV_of mix Try.func322 c_sl1Cur_touch ?_; simp only [↓vsd, vsn, gW, qd, qv, ev, pick, argE, zipE, ne_eq, eq_self, forall_const, implies_true, if_true, if_false, reduceIte, reduceCtorEq, Nat.reduceEqDiff, Nat.reduceAdd, Nat.reduceLT, ↓us_sl1Cur_touch, r_sl1Cur_touch])
  refine m_callw (.inl rfl) (sl1Cur_pick_ok W b n m (by omega) _ (by omega) hc) ?_
  rintro _ w1 ⟨hc1, hg1, k, rfl, hk⟩
  simp only [↓vsd, vsn, gW, qd, qv, ev, pick, argE, zipE, ne_eq, eq_self, forall_const, implies_true, if_true, if_false, reduceIte, reduceCtorEq, Nat.reduceEqDiff, Nat.reduceAdd, Nat.reduceLT, ↓us_sl1Cur_touch, r_sl1Cur_touch]
  refine ⟨inR_i64 (by omega), m_loop (fun j vs w' => ∃ (t : List UInt8), vs = [S t, .int .i64 j] ∧ t.length + j ≤ m + 1 ∧ Cur W b (n + 2 + 2 * (m + 1 - j)) w' ∧ w.grownBy w' (some b)) (k + 1) ⟨[], by rw [show (1 : Int) + k = ((k + 1 : Nat) : Int) by omega], by simp only [List.length_nil]; omega, hc1.mono (by omega), hg1⟩ ?_⟩
  rintro j vs w2 ⟨t, rfl, htl, hc2, hg2⟩
  by_cases hj : 0 < j
  · have hjI : (0 : Int) < j := by omega
    simp only [↓vsd, vsn, gW, qd, qv, ev, pick, argE, zipE, ne_eq, eq_self, forall_const, implies_true, if_true, if_false, reduceIte, reduceCtorEq, Nat.reduceEqDiff, Nat.reduceAdd, Nat.reduceLT, ↓us_sl1Cur_touch, r_sl1Cur_touch, hjI]
    refine m_bsl (by simp [S]; repeat' constructor) ?_
    rintro b3 w3 hb3 hblk3 hx3 hs3
    have hlt := hc2.lt
    simp only [↓vsd, vsn, gW, qd, qv, ev, pick, argE, zipE, ne_eq, eq_self, forall_const, implies_true, if_true, if_false, reduceIte, reduceCtorEq, Nat.reduceEqDiff, Nat.reduceAdd, Nat.reduceLT, ↓us_sl1Cur_touch, r_sl1Cur_touch]
    refine m_callw (by first | exact .inl rfl | exact .inr rfl) (sl1Cur_of_ok W b _ _ [[112], [112], [98], [115], [98]] w3 (by omega) (by decide) (hc2.ext (by first | exact hx3 | exact ud hx3)) (Sq.litC _ _ fS_len hblk3 rfl rfl (by omega))) ?_
    rintro _ w4 ⟨hc4, hg4, x, rfl, hx⟩
    have hx1 : x.length = 1 := by simp only [List.mem_cons, List.not_mem_nil, or_false] at hx; rcases hx with rfl | rfl | rfl | rfl | rfl <;> rfl
    simp only [↓vsd, vsn, gW, qd, qv, ev, pick, argE, zipE, ne_eq, eq_self, forall_const, implies_true, if_true, if_false, reduceIte, reduceCtorEq, Nat.reduceEqDiff, Nat.reduceAdd, Nat.reduceLT, ↓us_sl1Cur_touch, r_sl1Cur_touch]
    exact ⟨by omega, inR_i64 (by omega), j - 1, by omega, t ++ x, ⟨rfl, by rw [show (j : Int) - 1 = ((j - 1 : Nat) : Int) by omega]⟩, by rw [List.length_append]; omega, hc4.mono (by omega), grown_trans (grown_trans hg2 (grown_ext _ (by first | exact hx3 | exact ud hx3))) hg4⟩
  · obtain rfl : j = 0 := by omega
    have hjI : ¬ (0 : Int) < ((0 : Nat) : Int) := by omega
    simp only [↓vsd, vsn, gW, qd, qv, ev, pick, argE, zipE, ne_eq, eq_self, forall_const, implies_true, if_true, if_false, reduceIte, reduceCtorEq, Nat.reduceEqDiff, Nat.reduceAdd, Nat.reduceLT, ↓us_sl1Cur_touch, r_sl1Cur_touch, hjI]
    refine m_callw (.inl rfl) (sl1Cur_one_ok W b _ 3 (by omega) _ (by omega) hc2) ?_
    rintro _ w3 ⟨hc3, hg3, x, rfl⟩
    cases x
    · simp only [↓vsd, vsn, gW, qd, qv, ev, pick, argE, zipE, ne_eq, eq_self, forall_const, implies_true, if_true, if_false, reduceIte, reduceCtorEq, Nat.reduceEqDiff, Nat.reduceAdd, Nat.reduceLT, ↓us_sl1Cur_touch, r_sl1Cur_touch]
      exact ⟨hc3.mono (by omega), grown_trans hg2 hg3, t, rfl, by omega⟩
    · simp only [↓vsd, vsn, gW, qd, qv, ev, pick, argE, zipE, ne_eq, eq_self, forall_const, implies_true, if_true, if_false, reduceIte, reduceCtorEq, Nat.reduceEqDiff, Nat.reduceAdd, Nat.reduceLT, ↓us_sl1Cur_touch, r_sl1Cur_touch]
      exact ⟨by omega, hc3.mono (by omega), grown_trans hg2 hg3, t ++ t, rfl, by rw [List.length_append]; omega⟩
theorem sl1Cur_anyTouch_ok (W : World) (b n : Nat) (w : World) (hn : n ≤ 600000000) (hc : Cur W b n w) : CurFn 287 [cV b] W b n 400 w (fun r _ => ∃ x, r = S x ∧ x.length ≤ 61) := by
  (refine callsV_of mix Try.func287 c_sl1Cur_anyTouch ?_; simp only [↓vsd, vsn, gW, qd, qv, ev, pick, argE, zipE, ne_eq, eq_self, forall_const, implies_true, if_true, if_false, reduceIte, reduceCtorEq, Nat.reduceEqDiff, Nat.reduceAdd, Nat.reduceLT, ↓us_sl1Cur_anyTouch, r_sl1Cur_anyTouch])
  refine m_callw (.inl rfl) (sl1Cur_pick_ok W b n 16 (by omega) _ (by omega) hc) ?_
  rintro _ w1 ⟨hc1, hg1, q, rfl, hq⟩
  have hlt := hc1.lt
  simp only [↓vsd, vsn, gW, qd, qv, ev, pick, argE, zipE, ne_eq, eq_self, forall_const, implies_true, if_true, if_false, reduceIte, reduceCtorEq, Nat.reduceEqDiff, Nat.reduceAdd, Nat.reduceLT, ↓us_sl1Cur_anyTouch, r_sl1Cur_anyTouch]
  refine ⟨fun h0 => m_bsl (by simp [S]; repeat' constructor) ?_, fun h0 => ⟨fun h1 => m_bsl (by simp; repeat' constructor) ?_, fun h1 => m_callw (.inl rfl) (sl1Cur_touch_ok W b _ 9 (by omega) _ (by omega) hc1) ?_⟩⟩
  · rintro b2 w2 hb2 hblk2 hx2 hs2
    simp only [↓vsd, vsn, gW, qd, qv, ev, pick, argE, zipE, ne_eq, eq_self, forall_const, implies_true, if_true, if_false, reduceIte, reduceCtorEq, Nat.reduceEqDiff, Nat.reduceAdd, Nat.reduceLT, ↓us_sl1Cur_anyTouch, r_sl1Cur_anyTouch]
    refine m_callw (by first | exact .inl rfl | exact .inr rfl) (sl1Cur_of_ok W b _ _ [[], [120], [112, 66], [112, 32, 98]] w2 (by omega) (by decide) (hc1.ext hx2) (Sq.litC _ _ fS_len hblk2 rfl rfl (by omega))) ?_
    rintro _ w3 ⟨hc3, hg3, x, rfl, hx⟩
    simp only [↓vsd, vsn, gW, qd, qv, ev, pick, argE, zipE, ne_eq, eq_self, forall_const, implies_true, if_true, if_false, reduceIte, reduceCtorEq, Nat.reduceEqDiff, Nat.reduceAdd, Nat.reduceLT, ↓us_sl1Cur_anyTouch, r_sl1Cur_anyTouch]
    exact ⟨hc3.mono (by omega), grown_trans (grown_trans hg1 (grown_ext _ hx2)) hg3, x, rfl, by simp only [List.mem_cons, List.not_mem_nil, or_false] at hx; rcases hx with rfl | rfl | rfl | rfl <;> decide⟩
  · rintro b2 w2 hb2 hblk2 hx2 hs2
    simp only [↓vsd, vsn, gW, qd, qv, ev, pick, argE, zipE, ne_eq, eq_self, forall_const, implies_true, if_true, if_false, reduceIte, reduceCtorEq, Nat.reduceEqDiff, Nat.reduceAdd, Nat.reduceLT, ↓us_sl1Cur_anyTouch, r_sl1Cur_anyTouch]
    refine m_callw (by first | exact .inl rfl | exact .inr rfl) (sl1Cur_among_ok W b _ _ [59, 60, 61] w2 (by omega) (by decide) (hc1.ext hx2) (Sq.litC _ _ fI_len hblk2 rfl rfl (by omega))) ?_
    rintro _ w3 ⟨hc3, hg3, y, rfl, hy⟩
    have hy61 : 59 ≤ y ∧ y ≤ 61 := by simp only [List.mem_cons, List.not_mem_nil, or_false] at hy; omega
    obtain ⟨m, rfl⟩ : ∃ m : Nat, y = m := ⟨y.toNat, by omega⟩
    simp only [↓vsd, vsn, gW, qd, qv, ev, pick, argE, zipE, ne_eq, eq_self, forall_const, implies_true, if_true, if_false, reduceIte, reduceCtorEq, Nat.reduceEqDiff, Nat.reduceAdd, Nat.reduceLT, ↓us_sl1Cur_anyTouch, r_sl1Cur_anyTouch]
    refine m_loop (fun j vs w' => ∃ (t : List UInt8), vs = [S t, .int .i64 j] ∧ t.length + j ≤ 61 ∧ Cur W b (n + 10 + 2 * (61 - j)) w' ∧ w.grownBy w' (some b)) m ⟨[], rfl, by simp only [List.length_nil]; omega, hc3.mono (by omega), grown_trans (grown_trans hg1 (grown_ext _ hx2)) hg3⟩ ?_
    rintro j vs w4 ⟨t, rfl, htl, hc4, hg4⟩
    by_cases hj : 0 < j
    · have hjI : (0 : Int) < j := by omega
      simp only [↓vsd, vsn, gW, qd, qv, ev, pick, argE, zipE, ne_eq, eq_self, forall_const, implies_true, if_true, if_false, reduceIte, reduceCtorEq, Nat.reduceEqDiff, Nat.reduceAdd, Nat.reduceLT, ↓us_sl1Cur_anyTouch, r_sl1Cur_anyTouch, hjI]
      refine m_bsl (by simp [S]; repeat' constructor) ?_
      rintro b5 w5 hb5 hblk5 hx5 hs5
      have hlt4 := hc4.lt
      simp only [↓vsd, vsn, gW, qd, qv, ev, pick, argE, zipE, ne_eq, eq_self, forall_const, implies_true, if_true, if_false, reduceIte, reduceCtorEq, Nat.reduceEqDiff, Nat.reduceAdd, Nat.reduceLT, ↓us_sl1Cur_anyTouch, r_sl1Cur_anyTouch]
      refine m_callw (by first | exact .inl rfl | exact .inr rfl) (sl1Cur_of_ok W b _ _ [[112], [98], [115]] w5 (by omega) (by decide) (hc4.ext (by first | exact hx5 | exact ud hx5)) (Sq.litC _ _ fS_len hblk5 rfl rfl (by omega))) ?_
      rintro _ w6 ⟨hc6, hg6, x, rfl, hx⟩
      have hx1 : x.length = 1 := by simp only [List.mem_cons, List.not_mem_nil, or_false] at hx; rcases hx with rfl | rfl | rfl <;> rfl
      simp only [↓vsd, vsn, gW, qd, qv, ev, pick, argE, zipE, ne_eq, eq_self, forall_const, implies_true, if_true, if_false, reduceIte, reduceCtorEq, Nat.reduceEqDiff, Nat.reduceAdd, Nat.reduceLT, ↓us_sl1Cur_anyTouch, r_sl1Cur_anyTouch]
      exact ⟨by omega, inR_i64 (by omega), j - 1, by omega, t ++ x, ⟨rfl, by rw [show (j : Int) - 1 = ((j - 1 : Nat) : Int) by omega]⟩, by rw [List.length_append]; omega, hc6.mono (by omega), grown_trans (grown_trans hg4 (grown_ext _ (by first | exact hx5 | exact ud hx5))) hg6⟩
    · obtain rfl : j = 0 := by omega
      have hjI : ¬ (0 : Int) < ((0 : Nat) : Int) := by omega
      simp only [↓vsd, vsn, gW, qd, qv, ev, pick, argE, zipE, ne_eq, eq_self, forall_const, implies_true, if_true, if_false, reduceIte, reduceCtorEq, Nat.reduceEqDiff, Nat.reduceAdd, Nat.reduceLT, ↓us_sl1Cur_anyTouch, r_sl1Cur_anyTouch, hjI]
      exact ⟨hc4.mono (by omega), hg4, t, rfl, by omega⟩
  · rintro _ w2 ⟨hc2, hg2, x, rfl, hx⟩
    simp only [↓vsd, vsn, gW, qd, qv, ev, pick, argE, zipE, ne_eq, eq_self, forall_const, implies_true, if_true, if_false, reduceIte, reduceCtorEq, Nat.reduceEqDiff, Nat.reduceAdd, Nat.reduceLT, ↓us_sl1Cur_anyTouch, r_sl1Cur_anyTouch]
    exact ⟨hc2.mono (by omega), grown_trans hg1 hg2, x, rfl, by omega⟩
end Go.Proofs.Ytnincmnkdjlndaa
