/-
  TrueSplice returns what the reference's returns: the law.
  Conditions: none.
-/
import Derived.Test.YthopbkemkfjebaaKA68
import Derived.Test.YthopbkemkfjebaaKA88
set_option linter.unusedSimpArgs false
set_option linter.unusedVariables false
set_option linter.defProp false
namespace Go.Proofs.Ythopbkemkfjebaa
open Go Go.RowKit
section
variable (P : Program) (k : KT) (e : Env) (w : World)
abbrev b6_1 : X := (.cond (.t 15) (.seq (.reg [6] (.c (.q 6 [] (.mv (.c (.bool true)))) .nil)) .ret) .skip)
def t6_1 := b6_1
theorem u6_1 : vcK P t6_1 k e w = vcK P b6_1 k e w := rfl
abbrev b6_2 : X := (.cond (.t 20) (.seq (.reg [6] (.c (.q 6 [] (.mv (.c (.bool true)))) .nil)) .ret) .skip)
def t6_2 := b6_2
theorem u6_2 : vcK P t6_2 k e w = vcK P b6_2 k e w := rfl
abbrev b6_3 : X := (.cond (.t 25) (.seq (.reg [6] (.c (.q 6 [] (.mv (.c (.bool true)))) .nil)) .ret) .skip)
def t6_3 := b6_3
theorem u6_3 : vcK P t6_3 k e w = vcK P b6_3 k e w := rfl
abbrev b6_4 : X := (.cond (.t 52) (.seq (.reg [6] (.c (.q 6 [] (.mv (.c (.bool false)))) .nil)) .ret) .skip)
def t6_4 := b6_4
theorem u6_4 : vcK P t6_4 k e w = vcK P b6_4 k e w := rfl
abbrev b6_5 : X := (.cond (.t 57) (.seq (.reg [6] (.c (.q 6 [] (.mv (.c (.bool false)))) .nil)) .ret) .skip)
def t6_5 := b6_5
theorem u6_5 : vcK P t6_5 k e w = vcK P b6_5 k e w := rfl
abbrev b6_6 : X := (.seq (.reg [6] (.c (.q 6 [] (.mv (.c (.bool true)))) .nil)) .ret)
def t6_6 := b6_6
theorem u6_6 : vcK P t6_6 k e w = vcK P b6_6 k e w := rfl
abbrev b6_7 : X := (.seq (.seq (.reg [57] (.c (.q 53 [] (.mv (.t 10))) (.c (.q 54 [] (.mv (.t 0))) (.c (.e (some 55) [] (.call false 46 [(.t 54)])) (.c (.e (some 56) [] (.call false 49 [(.t 53), (.t 55)])) (.c (.q 57 [] (.not (.t 56))) .nil)))))) t6_5) t6_6)
def t6_7 := b6_7
theorem u6_7 : vcK P t6_7 k e w = vcK P b6_7 k e w := rfl
abbrev b6_8 : X := (.seq (.seq (.reg [0, 10, 52] (.c (.q 45 [] (.mv (.t 11))) (.c (.q 46 [] (.mv (.t 8))) (.c (.q 47 [] (.beq true (.t 45) (.t 46))) (.c (.q 48 [] (.mv (.t 47))) (.c (.q 49 [(48, false)] (.mv (.t 12))) (.c (.q 50 [(48, false)] (.mv (.t 9))) (.c (.q 51 [(48, false)] (.beq true (.t 49) (.t 50))) (.c (.q 52 [] (.pick (.t 48) (.c (.bool true)) (.t 51))) .nil))))))))) t6_4) t6_7)
def t6_8 := b6_8
theorem u6_8 : vcK P t6_8 k e w = vcK P b6_8 k e w := rfl
abbrev b6_9 : X := (.seq (.reg [0, 8, 9, 10, 11, 12] (.c (.q 38 [] (.mv (.t 10))) (.c (.q 39 [] (.lda 2 (.t 4))) (.c (.e (some 40) [] (.call false 47 [(.t 39)])) (.c (.q 41 [] (.mv (.t 2))) (.c (.e (some 42) [] (.call false 48 [(.t 38), (.t 40), (.t 41)])) (.c (.q 37 [] (.mv (.t 42))) (.c (.q 43 [] (.ext 0 (.t 37))) (.c (.q 44 [] (.ext 1 (.t 37))) (.c (.q 11 [] (.mv (.t 43))) (.c (.q 12 [] (.mv (.t 44))) .nil))))))))))) t6_8)
def t6_9 := b6_9
theorem u6_9 : vcK P t6_9 k e w = vcK P b6_9 k e w := rfl
abbrev b6_10 : X := (.seq (.reg [0, 2, 4, 8, 9, 10] (.c (.q 35 [] (.mv (.t 0))) (.c (.e (some 36) [] (.call false 46 [(.t 35)])) (.c (.q 10 [] (.mv (.t 36))) .nil)))) t6_9)
def t6_10 := b6_10
theorem u6_10 : vcK P t6_10 k e w = vcK P b6_10 k e w := rfl
abbrev b6_11 : X := (.seq (.drw [0, 2, 4, 8, 9] (.c (.q 27 [] (.mv (.t 0))) (.c (.q 29 [] (.lda 2 (.t 4))) (.c (.q 31 [] (.mv (.t 2))) (.c (.e (some 28) [] (.call false 46 [(.t 27)])) (.c (.e (some 30) [] (.call false 47 [(.t 29)])) (.c (.e (some 32) [] (.call false 45 [(.t 28), (.t 30), (.t 31)])) (.c (.q 26 [] (.mv (.t 32))) (.c (.q 33 [] (.ext 0 (.t 26))) (.c (.q 34 [] (.ext 1 (.t 26))) (.c (.q 8 [] (.mv (.t 33))) (.c (.q 9 [] (.mv (.t 34))) .nil)))))))))))) t6_10)
def t6_11 := b6_11
theorem u6_11 : vcK P t6_11 k e w = vcK P b6_11 k e w := rfl
abbrev b6_12 : X := (.seq (.seq (.reg [0, 2, 4, 25] (.c (.q 24 [] (.mv (.t 7))) (.c (.q 25 [] (.bin .lss (.t 24) (.c (.int .i64 0)))) .nil))) t6_3) t6_11)
def t6_12 := b6_12
theorem u6_12 : vcK P t6_12 k e w = vcK P b6_12 k e w := rfl
abbrev b6_13 : X := (.seq (.reg [0, 2, 4, 7] (.c (.q 21 [] (.lda 2 (.t 4))) (.c (.q 22 [] (.mv (.t 7))) (.c (.e (some 23) [] (.call false 44 [(.t 21), (.t 22)])) (.c (.q 7 [] (.mv (.t 23))) .nil))))) t6_12)
def t6_13 := b6_13
theorem u6_13 : vcK P t6_13 k e w = vcK P b6_13 k e w := rfl
abbrev b6_14 : X := (.seq (.seq (.reg [0, 2, 4, 7, 20] (.c (.q 19 [] (.mv (.t 7))) (.c (.q 20 [] (.bin .lss (.t 19) (.c (.int .i64 0)))) .nil))) t6_2) t6_13)
def t6_14 := b6_14
theorem u6_14 : vcK P t6_14 k e w = vcK P b6_14 k e w := rfl
abbrev b6_15 : X := (.seq (.reg [0, 2, 4, 7] (.c (.q 16 [] (.mv (.t 0))) (.c (.q 17 [] (.mv (.t 7))) (.c (.e (some 18) [] (.call false 43 [(.t 16), (.t 17)])) (.c (.q 7 [] (.mv (.t 18))) .nil))))) t6_14)
def t6_15 := b6_15
theorem u6_15 : vcK P t6_15 k e w = vcK P b6_15 k e w := rfl
abbrev b6_16 : X := (.seq (.reg [0, 2, 4, 7] (.c (.q 7 [] (.mv (.c (.int .i64 1048576)))) .nil)) t6_15)
def t6_16 := b6_16
theorem u6_16 : vcK P t6_16 k e w = vcK P b6_16 k e w := rfl
abbrev b6_17 : X := (.seq (.seq (.reg [0, 2, 4, 15] (.c (.q 13 [] (.mv (.t 2))) (.c (.q 14 [] (.len (.t 13))) (.c (.q 15 [] (.bin .gtr (.t 14) (.c (.int .i64 1048576)))) .nil)))) t6_1) t6_16)
def t6_17 := b6_17
theorem u6_17 : vcK P t6_17 k e w = vcK P b6_17 k e w := rfl
abbrev b6_0 : X := (.seq (.reg [0, 2, 4] (.c (.e (some 4) [] (.box 56 (.t 1))) (.c (.q 6 [] (.mv (.c (.bool false)))) .nil))) t6_17)
def x_lFnExactTrueSplice := b6_0
theorem u6_0 : vcK P x_lFnExactTrueSplice k e w = vcK P b6_0 k e w := rfl
def r_lFnExactTrueSplice : List XO := [(.mv (.t 6))]
theorem c_lFnExactTrueSplice : convF Try.prog [54, 55, 58, 69, 70, 71, 72, 73, 84, 89, 94, 95, 113, 114, 115, 130, 134, 143, 146, 161] Try.f6 [([0, 2, 4], []), ([0, 2, 4, 15], []), ([6], []), ([0, 2, 4, 7], []), ([0, 2, 4, 7], []), ([0, 2, 4, 7, 20], []), ([6], []), ([0, 2, 4, 7], []), ([0, 2, 4, 25], []), ([6], []), ([0, 2, 4, 8, 9], []), ([0, 2, 4, 8, 9, 10], []), ([0, 8, 9, 10, 11, 12], []), ([0, 10, 52], []), ([6], []), ([57], []), ([6], []), ([6], [])] = some (x_lFnExactTrueSplice, r_lFnExactTrueSplice) := by kernel_rfl
def us_lFnExactTrueSplice :=  (aI (aI (aI (aI @u6_0 @u6_1) (aI @u6_2 @u6_3)) (aI (aI @u6_4 @u6_5) (aI @u6_6 (aI @u6_7 @u6_8)))) (aI (aI (aI @u6_9 @u6_10) (aI @u6_11 @u6_12)) (aI (aI @u6_13 @u6_14) (aI @u6_15 (aI @u6_16 @u6_17)))))
end
theorem sameM_splok {ms ms' : List MS} (h : SameM ms ms') (css : List (List (List UInt8))) (b s t : List UInt8) : SplOk ms' css b s t ↔ SplOk ms css b s t := by
  unfold SplOk
  rw [sameM_spl h, h.1]
theorem sameM_tsp {ms ms' : List MS} (h : SameM ms ms') (css : List (List (List UInt8))) (b s t : List UInt8) : tspV ms' css b s t = tspV ms css b s t := by
  rw [tspV, tspV, tspB, tspB, decide_eq_decide.2 (sameM_splok h css b s t), (h.2 0).2]
theorem lFnExactTrueSplice_ok (v : Value) (ms : List MS) (css : List (List (List UInt8))) (b s t : List UInt8) (hB : MBig ms css) (hb : b.length ≤ 9223372036854775807 ∧ s.length ≤ 9223372036854775807) (ht : t.length ≤ 9223372036854775807) (w : World) (h : SqM w v ms css) : Fn 6 [v, kV b s, S t] w (fun r _ => r = .bool true) := by
  (refine callsV_of mix Try.func6 c_lFnExactTrueSplice ?_; simp only [↓vsd, vsn, gW, qd, qv, ev, pick, argE, zipE, ne_eq, eq_self, forall_const, implies_true, if_true, if_false, reduceIte, reduceCtorEq, Nat.reduceEqDiff, Nat.reduceAdd, Nat.reduceLT, ↓us_lFnExactTrueSplice, r_lFnExactTrueSplice])
  refine m_al ?_
  rintro b1 w1 hb1 hblk1 hx1 hs1
  have h1 : Blk w1 b1 (fQ b s) 56 := hblk1
  simp only [↓vsd, vsn, gW, qd, qv, ev, pick, argE, zipE, ne_eq, eq_self, forall_const, implies_true, if_true, if_false, reduceIte, reduceCtorEq, Nat.reduceEqDiff, Nat.reduceAdd, Nat.reduceLT, ↓us_lFnExactTrueSplice, r_lFnExactTrueSplice, h1.facts, fQg]
  refine ⟨fun _ => hx1, fun hct => ?_⟩
  refine m_call (lszMethodS_ok v ms css 1048576 (by decide) hB _ (h.ext hx1)) ?_
  rintro _ w3 hx3 ⟨m, rfl, hm1, hm⟩
  have hx13 := hx1.trans hx3
  have h13 := h1.ext hx3
  simp only [↓vsd, vsn, gW, qd, qv, ev, pick, argE, zipE, ne_eq, eq_self, forall_const, implies_true, if_true, if_false, reduceIte, reduceCtorEq, Nat.reduceEqDiff, Nat.reduceAdd, Nat.reduceLT, ↓us_lFnExactTrueSplice, r_lFnExactTrueSplice, h13.facts, fQg]
  refine ⟨fun _ => hx13, fun h0 => ?_⟩
  obtain ⟨hsm, hfl⟩ := hm h0
  refine m_call (lszCalls_ok b s m ⟨hm1, h0⟩ hb _) ?_
  rintro _ w4 hx4 ⟨m2, rfl, hm21, hm2⟩
  have hx14 := hx13.trans hx4
  have h14 := h13.ext hx4
  simp only [↓vsd, vsn, gW, qd, qv, ev, pick, argE, zipE, ne_eq, eq_self, forall_const, implies_true, if_true, if_false, reduceIte, reduceCtorEq, Nat.reduceEqDiff, Nat.reduceAdd, Nat.reduceLT, ↓us_lFnExactTrueSplice, r_lFnExactTrueSplice, h14.facts, fQg]
  refine ⟨fun _ => hx14, fun h02 => ?_⟩
  have hb := hm2 h02
  have ht : t.length ≤ 1048576 := by omega
  refine m_call (ltoMethodS_ok v ms css hsm _ (by first | exact h.ext hx14 | exact h.ext (dr hx14))) ?_
  rintro x5 w5 hx5 ⟨ms5, hS5, hN5⟩
  have hx5 : Ext w4 w5 := by first | exact hx5 | exact ud hx5 | exact ud (ud hx5)
  have hx15 := hx14.trans hx5
  have h15 := h14.ext hx5
  simp only [↓vsd, vsn, gW, qd, qv, ev, pick, argE, zipE, ne_eq, eq_self, forall_const, implies_true, if_true, if_false, reduceIte, reduceCtorEq, Nat.reduceEqDiff, Nat.reduceAdd, Nat.reduceLT, ↓us_lFnExactTrueSplice, r_lFnExactTrueSplice, h15.facts, fQg]
  refine m_call (ltoCalls_ok b s _) ?_
  rintro _ w6 hx6 rfl
  have hx6 : Ext w5 w6 := by first | exact hx6 | exact ud hx6 | exact ud (ud hx6)
  have hx16 := hx15.trans hx6
  have h16 := h15.ext hx6
  simp only [↓vsd, vsn, gW, qd, qv, ev, pick, argE, zipE, ne_eq, eq_self, forall_const, implies_true, if_true, if_false, reduceIte, reduceCtorEq, Nat.reduceEqDiff, Nat.reduceAdd, Nat.reduceLT, ↓us_lFnExactTrueSplice, r_lFnExactTrueSplice]
  refine m_call (sTrueSplice_ok x5 ms5 css b s t (sameM_small hS5 hsm) hb ht _ (hN5.ext hx6).sq) ?_
  rintro _ w7 hx7 rfl
  have hx7 : Ext w6 w7 := by first | exact hx7 | exact ud hx7 | exact ud (ud hx7)
  rw [sameM_tsp hS5, tspV]
  have hx17 := hx16.trans hx7
  have h17 := h16.ext hx7
  simp only [↓vsd, vsn, gW, qd, qv, ev, pick, argE, zipE, ne_eq, eq_self, forall_const, implies_true, if_true, if_false, reduceIte, reduceCtorEq, Nat.reduceEqDiff, Nat.reduceAdd, Nat.reduceLT, ↓us_lFnExactTrueSplice, r_lFnExactTrueSplice, h17.facts, fQg]
  refine m_call (ltoMethodS_ok v ms css hsm _ (by first | exact h.ext hx17 | exact h.ext (dr hx17))) ?_
  rintro x8 w8 hx8 ⟨ms8, hS8, hN8⟩
  have hx8 : Ext w7 w8 := by first | exact hx8 | exact ud hx8 | exact ud (ud hx8)
  have hx18 := hx17.trans hx8
  have h18 := h17.ext hx8
  simp only [↓vsd, vsn, gW, qd, qv, ev, pick, argE, zipE, ne_eq, eq_self, forall_const, implies_true, if_true, if_false, reduceIte, reduceCtorEq, Nat.reduceEqDiff, Nat.reduceAdd, Nat.reduceLT, ↓us_lFnExactTrueSplice, r_lFnExactTrueSplice, h18.facts, fQg]
  refine m_call (ltoCalls_ok b s _) ?_
  rintro _ w9 hx9 rfl
  have hx9 : Ext w8 w9 := by first | exact hx9 | exact ud hx9 | exact ud (ud hx9)
  have hx19 := hx18.trans hx9
  have h19 := h18.ext hx9
  simp only [↓vsd, vsn, gW, qd, qv, ev, pick, argE, zipE, ne_eq, eq_self, forall_const, implies_true, if_true, if_false, reduceIte, reduceCtorEq, Nat.reduceEqDiff, Nat.reduceAdd, Nat.reduceLT, ↓us_lFnExactTrueSplice, r_lFnExactTrueSplice]
  refine m_call (iTrueSplice_ok x8 ms8 css b s t (sameM_small hS8 hsm) hb ht _ (hN8.ext hx9).sq) ?_
  rintro _ w10 hx10 rfl
  have hx10 : Ext w9 w10 := by first | exact hx10 | exact ud hx10 | exact ud (ud hx10)
  rw [sameM_tsp hS8, tspV]
  have hx110 := hx19.trans hx10
  have h110 := h19.ext hx10
  simp only [↓vsd, vsn, gW, qd, qv, ev, pick, argE, zipE, ne_eq, eq_self, forall_const, implies_true, if_true, if_false, reduceIte, reduceCtorEq, Nat.reduceEqDiff, Nat.reduceAdd, Nat.reduceLT, ↓us_lFnExactTrueSplice, r_lFnExactTrueSplice]
  refine m_call (ltoMethodS_ok v ms css hsm _ (by first | exact h.ext hx110 | exact h.ext (dr hx110))) ?_
  rintro x12 w12 hx12 ⟨ms12, hS12, hN12⟩
  have hx12 : Ext w10 w12 := by first | exact hx12 | exact ud hx12 | exact ud (ud hx12)
  have hx112 := hx110.trans hx12
  simp only [↓vsd, vsn, gW, qd, qv, ev, pick, argE, zipE, ne_eq, eq_self, forall_const, implies_true, if_true, if_false, reduceIte, reduceCtorEq, Nat.reduceEqDiff, Nat.reduceAdd, Nat.reduceLT, ↓us_lFnExactTrueSplice, r_lFnExactTrueSplice]
  have hN812 := ((hN8.ext hx9).ext hx10).ext hx12
  have hS812 : SameM ms8 ms12 := ⟨hS12.1.trans hS8.1.symm, fun i => ⟨(hS12.2 i).1.trans (hS8.2 i).1.symm, (hS12.2 i).2.trans (hS8.2 i).2.symm⟩⟩
  refine m_call (leqMethodS_ok x8 x12 ms8 ms12 css (sameM_small hS8 hsm) hS812 _ hN812.sq hN12.sq) ?_
  rintro _ w13 hx13b rfl
  simp only [↓vsd, vsn, gW, qd, qv, ev, pick, argE, zipE, ne_eq, eq_self, forall_const, implies_true, if_true, if_false, reduceIte, reduceCtorEq, Nat.reduceEqDiff, Nat.reduceAdd, Nat.reduceLT, ↓us_lFnExactTrueSplice, r_lFnExactTrueSplice]
  exact hx112.trans hx13b
end Go.Proofs.Ythopbkemkfjebaa
