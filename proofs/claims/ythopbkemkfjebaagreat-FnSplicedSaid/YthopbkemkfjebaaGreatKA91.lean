/-
  Splices: how they are balanced, how often they switch, a touch as a splice, their heads, of both sides.
  Conditions: none.
-/
import Derived.Test.YthopbkemkfjebaaGreatKA17
import Derived.Test.YthopbkemkfjebaaGreatKA67
set_option linter.unusedSimpArgs false
set_option linter.unusedVariables false
set_option linter.defProp false
namespace Go.Proofs.YthopbkemkfjebaaGreat
open Go Go.RowKit
section
variable (P : Program) (k : KT) (e : Env) (w : World)
abbrev b31_1 : X := (.cond (.t 12) (.seq (.reg [6, 7] (.c (.q 6 [] (.mv (.c (.slice none 0 0)))) (.c (.q 7 [] (.mv (.c (.bool false)))) .nil))) .ret) .skip)
def t31_1 := b31_1
theorem u31_1 : vcK P t31_1 k e w = vcK P b31_1 k e w := rfl
abbrev b31_2 : X := (.seq (.reg [6, 7] (.c (.q 13 [] (.mv (.t 0))) (.c (.q 14 [] (.lda 2 (.t 4))) (.c (.q 15 [] (.mv (.t 2))) (.c (.e (some 16) [] (.call false 84 [(.t 13), (.t 14), (.t 15)])) (.c (.q 6 [] (.mv (.t 16))) (.c (.q 7 [] (.mv (.c (.bool true)))) .nil))))))) .ret)
def t31_2 := b31_2
theorem u31_2 : vcK P t31_2 k e w = vcK P b31_2 k e w := rfl
abbrev b31_3 : X := (.seq (.seq (.reg [0, 2, 4, 12] (.c (.q 8 [] (.mv (.t 0))) (.c (.q 9 [] (.lda 2 (.t 4))) (.c (.q 10 [] (.mv (.t 2))) (.c (.e (some 11) [] (.call false 83 [(.t 8), (.t 9), (.t 10)])) (.c (.q 12 [] (.not (.t 11))) .nil)))))) t31_1) t31_2)
def t31_3 := b31_3
theorem u31_3 : vcK P t31_3 k e w = vcK P b31_3 k e w := rfl
abbrev b31_0 : X := (.seq (.reg [0, 2, 4] (.c (.e (some 4) [] (.box 27 (.t 1))) (.c (.q 6 [] (.mv (.c (.slice none 0 0)))) (.c (.q 7 [] (.mv (.c (.bool false)))) .nil)))) t31_3)
def x_iSpliceHeads := b31_0
theorem u31_0 : vcK P x_iSpliceHeads k e w = vcK P b31_0 k e w := rfl
def r_iSpliceHeads : List XO := [(.mv (.t 6)), (.mv (.t 7))]
theorem c_iSpliceHeads : convF Tryz.prog [56, 58, 59, 60, 61, 62, 72, 73, 77, 97, 98, 109, 110, 111, 112, 115, 128, 136] Tryz.f31 [([0, 2, 4], []), ([0, 2, 4, 12], []), ([6, 7], []), ([6, 7], [])] = some (x_iSpliceHeads, r_iSpliceHeads) := by kernel_rfl
def us_iSpliceHeads :=  (aI (aI @u31_0 @u31_1) (aI @u31_2 @u31_3))
abbrev b39_1 : X := (.cond (.t 12) (.seq (.reg [6, 7] (.c (.q 6 [] (.mv (.c (.slice none 0 0)))) (.c (.q 7 [] (.mv (.c (.bool false)))) .nil))) .ret) .skip)
def t39_1 := b39_1
theorem u39_1 : vcK P t39_1 k e w = vcK P b39_1 k e w := rfl
abbrev b39_2 : X := (.seq (.reg [6, 7] (.c (.q 13 [] (.mv (.t 0))) (.c (.q 14 [] (.lda 2 (.t 4))) (.c (.q 15 [] (.mv (.t 2))) (.c (.e (some 16) [] (.call false 91 [(.t 13), (.t 14), (.t 15)])) (.c (.q 6 [] (.mv (.t 16))) (.c (.q 7 [] (.mv (.c (.bool true)))) .nil))))))) .ret)
def t39_2 := b39_2
theorem u39_2 : vcK P t39_2 k e w = vcK P b39_2 k e w := rfl
abbrev b39_3 : X := (.seq (.seq (.reg [0, 2, 4, 12] (.c (.q 8 [] (.mv (.t 0))) (.c (.q 9 [] (.lda 2 (.t 4))) (.c (.q 10 [] (.mv (.t 2))) (.c (.e (some 11) [] (.call false 90 [(.t 8), (.t 9), (.t 10)])) (.c (.q 12 [] (.not (.t 11))) .nil)))))) t39_1) t39_2)
def t39_3 := b39_3
theorem u39_3 : vcK P t39_3 k e w = vcK P b39_3 k e w := rfl
abbrev b39_0 : X := (.seq (.reg [0, 2, 4] (.c (.e (some 4) [] (.box 27 (.t 1))) (.c (.q 6 [] (.mv (.c (.slice none 0 0)))) (.c (.q 7 [] (.mv (.c (.bool false)))) .nil)))) t39_3)
def x_sSpliceHeads := b39_0
theorem u39_0 : vcK P x_sSpliceHeads k e w = vcK P b39_0 k e w := rfl
def r_sSpliceHeads : List XO := [(.mv (.t 6)), (.mv (.t 7))]
theorem c_sSpliceHeads : convF Tryz.prog [56, 58, 59, 60, 61, 62, 72, 73, 77, 97, 98, 109, 110, 111, 112, 115, 128, 136] Tryz.f39 [([0, 2, 4], []), ([0, 2, 4, 12], []), ([6, 7], []), ([6, 7], [])] = some (x_sSpliceHeads, r_sSpliceHeads) := by kernel_rfl
def us_sSpliceHeads :=  (aI (aI @u39_0 @u39_1) (aI @u39_2 @u39_3))
end
def shV (ms : List MS) (css : List (List (List UInt8))) (b s t : List UInt8) : List (List UInt8) := if SplOk ms css b s t then hdsS (ms.getD 0 MS.nil).st.toNat css b s t (t.length / 2 + 1) else []
theorem iSpliceHeads_ok (v : Value) (ms : List MS) (css : List (List (List UInt8))) (b s t : List UInt8) (hsm : MSmall ms css) (hb : b.length ≤ 1048576 ∧ s.length ≤ 1048576) (ht : t.length ≤ 1048576) (w : World) (h : SqM w v ms css) : Fn 31 [v, kV b s, S t] w (fun r w' => ∃ x, r = .tuple ⟨[x, .bool (decide (SplOk ms css b s t))]⟩ ∧ Own fS 1 9 w.heap.size w' x (shV ms css b s t)) := by
  (refine callsV_of mix Tryz.func31 c_iSpliceHeads ?_; simp only [↓vsd, vsn, gW, qd, qv, ev, pick, argE, zipE, ne_eq, eq_self, forall_const, implies_true, if_true, if_false, reduceIte, reduceCtorEq, Nat.reduceEqDiff, Nat.reduceAdd, Nat.reduceLT, ↓us_iSpliceHeads, r_iSpliceHeads])
  refine m_al ?_
  rintro b1 w1 hb1 hblk1 hx1 hs1
  have h1 : Blk w1 b1 (fQ b s) 27 := hblk1
  simp only [↓vsd, vsn, gW, qd, qv, ev, pick, argE, zipE, ne_eq, eq_self, forall_const, implies_true, if_true, if_false, reduceIte, reduceCtorEq, Nat.reduceEqDiff, Nat.reduceAdd, Nat.reduceLT, ↓us_iSpliceHeads, r_iSpliceHeads, h1.facts, fQg]
  refine m_call (igoodSplice_ok v ms css b s t hsm hb ht _ (by first | exact h.ext hx1 | exact h.ext (dr hx1))) ?_
  rintro _ w2 hx2 rfl
  have hx2 : Ext w1 w2 := by first | exact hx2 | exact ud hx2 | exact ud (ud hx2)
  have hx12 := hx1.trans hx2
  have h12 := h1.ext hx2
  by_cases hS : SplOk ms css b s t
  · obtain ⟨n, hn, h8⟩ := spl_st hS
    simp only [↓vsd, vsn, gW, qd, qv, ev, pick, argE, zipE, ne_eq, eq_self, forall_const, implies_true, if_true, if_false, reduceIte, reduceCtorEq, Nat.reduceEqDiff, Nat.reduceAdd, Nat.reduceLT, ↓us_iSpliceHeads, r_iSpliceHeads, hS, h12.facts, fQg]
    refine m_call (ispliceHeads_ok v ms css b s t n hS hn h8 _ (by first | exact h.ext hx12 | exact h.ext (dr hx12))) ?_
    rintro y w3 hx3 hoy
    have hx3 : Ext w2 w3 := by first | exact hx3 | exact ud hx3 | exact ud (ud hx3)
    simp only [↓vsd, vsn, gW, qd, qv, ev, pick, argE, zipE, ne_eq, eq_self, forall_const, implies_true, if_true, if_false, reduceIte, reduceCtorEq, Nat.reduceEqDiff, Nat.reduceAdd, Nat.reduceLT, ↓us_iSpliceHeads, r_iSpliceHeads]
    exact ⟨hx12.trans hx3, y, rfl, by rw [shV, if_pos hS, hn]; exact hoy.mono hx12.size⟩
  · simp only [↓vsd, vsn, gW, qd, qv, ev, pick, argE, zipE, ne_eq, eq_self, forall_const, implies_true, if_true, if_false, reduceIte, reduceCtorEq, Nat.reduceEqDiff, Nat.reduceAdd, Nat.reduceLT, ↓us_iSpliceHeads, r_iSpliceHeads, hS]
    exact ⟨hx12, _, rfl, by rw [shV, if_neg hS]; exact Own.nil fS_len⟩
theorem sSpliceHeads_ok (v : Value) (ms : List MS) (css : List (List (List UInt8))) (b s t : List UInt8) (hsm : MSmall ms css) (hb : b.length ≤ 1048576 ∧ s.length ≤ 1048576) (ht : t.length ≤ 1048576) (w : World) (h : SqM w v ms css) : Fn 39 [v, kV b s, S t] w (fun r w' => ∃ x, r = .tuple ⟨[x, .bool (decide (SplOk ms css b s t))]⟩ ∧ Own fS 1 9 w.heap.size w' x (shV ms css b s t)) := by
  (refine callsV_of mix Tryz.func39 c_sSpliceHeads ?_; simp only [↓vsd, vsn, gW, qd, qv, ev, pick, argE, zipE, ne_eq, eq_self, forall_const, implies_true, if_true, if_false, reduceIte, reduceCtorEq, Nat.reduceEqDiff, Nat.reduceAdd, Nat.reduceLT, ↓us_sSpliceHeads, r_sSpliceHeads])
  refine m_al ?_
  rintro b1 w1 hb1 hblk1 hx1 hs1
  have h1 : Blk w1 b1 (fQ b s) 27 := hblk1
  simp only [↓vsd, vsn, gW, qd, qv, ev, pick, argE, zipE, ne_eq, eq_self, forall_const, implies_true, if_true, if_false, reduceIte, reduceCtorEq, Nat.reduceEqDiff, Nat.reduceAdd, Nat.reduceLT, ↓us_sSpliceHeads, r_sSpliceHeads, h1.facts, fQg]
  refine m_call (sl14Asked_ok v ms css b s t hsm hb ht _ (by first | exact h.ext hx1 | exact h.ext (dr hx1))) ?_
  rintro _ w2 hx2 rfl
  have hx2 : Ext w1 w2 := by first | exact hx2 | exact ud hx2 | exact ud (ud hx2)
  have hx12 := hx1.trans hx2
  have h12 := h1.ext hx2
  by_cases hS : SplOk ms css b s t
  · obtain ⟨n, hn, h8⟩ := spl_st hS
    simp only [↓vsd, vsn, gW, qd, qv, ev, pick, argE, zipE, ne_eq, eq_self, forall_const, implies_true, if_true, if_false, reduceIte, reduceCtorEq, Nat.reduceEqDiff, Nat.reduceAdd, Nat.reduceLT, ↓us_sSpliceHeads, r_sSpliceHeads, hS, h12.facts, fQg]
    refine m_call (sl14Heads_ok v ms css b s t n hS hn h8 _ (by first | exact h.ext hx12 | exact h.ext (dr hx12))) ?_
    rintro y w3 hx3 hoy
    have hx3 : Ext w2 w3 := by first | exact hx3 | exact ud hx3 | exact ud (ud hx3)
    simp only [↓vsd, vsn, gW, qd, qv, ev, pick, argE, zipE, ne_eq, eq_self, forall_const, implies_true, if_true, if_false, reduceIte, reduceCtorEq, Nat.reduceEqDiff, Nat.reduceAdd, Nat.reduceLT, ↓us_sSpliceHeads, r_sSpliceHeads]
    exact ⟨hx12.trans hx3, y, rfl, by rw [shV, if_pos hS, hn]; exact hoy.mono hx12.size⟩
  · simp only [↓vsd, vsn, gW, qd, qv, ev, pick, argE, zipE, ne_eq, eq_self, forall_const, implies_true, if_true, if_false, reduceIte, reduceCtorEq, Nat.reduceEqDiff, Nat.reduceAdd, Nat.reduceLT, ↓us_sSpliceHeads, r_sSpliceHeads, hS]
    exact ⟨hx12, _, rfl, by rw [shV, if_neg hS]; exact Own.nil fS_len⟩
end Go.Proofs.YthopbkemkfjebaaGreat
