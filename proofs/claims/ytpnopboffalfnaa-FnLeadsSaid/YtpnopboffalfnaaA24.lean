/-
  Lead heads, of both sides.
  Conditions: none.
-/
import Derived.Test.YtpnopboffalfnaaA11
import Derived.Test.YtpnopboffalfnaaVw
set_option linter.unusedSimpArgs false
set_option linter.unusedVariables false
set_option linter.defProp false
namespace Go.Proofs.Ytpnopboffalfnaa
open Go Go.RowKit
section
variable (P : Program) (k : KT) (e : Env) (w : World)
abbrev b133_1 : X := (.cond (.t 6) (.seq (.reg [2, 3] (.c (.q 2 [] (.mv (.s []))) (.c (.q 3 [] (.mv (.c (.bool false)))) .nil))) .ret) .skip)
def t133_1 := b133_1
theorem u133_1 : vcK P t133_1 k e w = vcK P b133_1 k e w := rfl
abbrev b133_2 : X := (.seq (.reg [2, 3] (.c (.q 7 [] (.lda 3 (.t 1))) (.c (.e (some 8) [] (.call false 240 [(.t 7)])) (.c (.q 2 [] (.mv (.t 8))) (.c (.q 3 [] (.mv (.c (.bool true)))) .nil))))) .ret)
def t133_2 := b133_2
theorem u133_2 : vcK P t133_2 k e w = vcK P b133_2 k e w := rfl
abbrev b133_3 : X := (.seq (.seq (.reg [1, 6] (.c (.q 4 [] (.lda 3 (.t 1))) (.c (.e (some 5) [] (.call false 166 [(.t 4)])) (.c (.q 6 [] (.not (.t 5))) .nil)))) t133_1) t133_2)
def t133_3 := b133_3
theorem u133_3 : vcK P t133_3 k e w = vcK P b133_3 k e w := rfl
abbrev b133_0 : X := (.seq (.reg [1] (.c (.e (some 1) [] (.box 41 (.t 0))) (.c (.q 2 [] (.mv (.s []))) (.c (.q 3 [] (.mv (.c (.bool false)))) .nil)))) t133_3)
def x_sLeadHead := b133_0
theorem u133_0 : vcK P x_sLeadHead k e w = vcK P b133_0 k e w := rfl
def r_sLeadHead : List XO := [(.mv (.t 2)), (.mv (.t 3))]
theorem c_sLeadHead : convF Try.prog [169, 170, 207, 208, 210, 227, 232, 233, 255, 259, 268, 269, 270, 280, 281, 296, 299, 306, 307, 309] Try.f133 [([1], []), ([1, 6], []), ([2, 3], []), ([2, 3], [])] = some (x_sLeadHead, r_sLeadHead) := by kernel_rfl
def us_sLeadHead := aI @u133_0 (aI @u133_1 (aI @u133_2 @u133_3))
abbrev b36_1 : X := (.cond (.t 6) (.seq (.reg [2, 3] (.c (.q 2 [] (.mv (.s []))) (.c (.q 3 [] (.mv (.c (.bool false)))) .nil))) .ret) .skip)
def t36_1 := b36_1
theorem u36_1 : vcK P t36_1 k e w = vcK P b36_1 k e w := rfl
abbrev b36_2 : X := (.seq (.reg [2, 3] (.c (.q 7 [] (.lda 3 (.t 1))) (.c (.e (some 8) [] (.call false 176 [(.t 7)])) (.c (.q 2 [] (.mv (.t 8))) (.c (.q 3 [] (.mv (.c (.bool true)))) .nil))))) .ret)
def t36_2 := b36_2
theorem u36_2 : vcK P t36_2 k e w = vcK P b36_2 k e w := rfl
abbrev b36_3 : X := (.seq (.seq (.reg [1, 6] (.c (.q 4 [] (.lda 3 (.t 1))) (.c (.e (some 5) [] (.call false 113 [(.t 4)])) (.c (.q 6 [] (.not (.t 5))) .nil)))) t36_1) t36_2)
def t36_3 := b36_3
theorem u36_3 : vcK P t36_3 k e w = vcK P b36_3 k e w := rfl
abbrev b36_0 : X := (.seq (.reg [1] (.c (.e (some 1) [] (.box 41 (.t 0))) (.c (.q 2 [] (.mv (.s []))) (.c (.q 3 [] (.mv (.c (.bool false)))) .nil)))) t36_3)
def x_iLeadHead := b36_0
theorem u36_0 : vcK P x_iLeadHead k e w = vcK P b36_0 k e w := rfl
def r_iLeadHead : List XO := [(.mv (.t 2)), (.mv (.t 3))]
theorem c_iLeadHead : convF Try.prog [169, 170, 207, 208, 210, 227, 232, 233, 255, 259, 268, 269, 270, 280, 281, 296, 299, 306, 307, 309] Try.f36 [([1], []), ([1, 6], []), ([2, 3], []), ([2, 3], [])] = some (x_iLeadHead, r_iLeadHead) := by kernel_rfl
def us_iLeadHead := aI @u36_0 (aI @u36_1 (aI @u36_2 @u36_3))
end

def headV (nm : List UInt8) (st : Int) (cs : List (List UInt8)) : Value := if IsMethod nm st cs then .tuple ⟨[S (underL (roundsL st.toNat) cs), .bool true]⟩ else .tuple ⟨[S [], .bool false]⟩
theorem sLeadHead_ok (nm : List UInt8) (st : Int) (v : Value) (cs : List (List UInt8)) (hnm : nm.length ≤ 1048576) (hs : ∀ c ∈ cs, c.length ≤ 1048576) (hl : cs.length ≤ 1000000000) (w : World) (h : Sq fS 1 w v cs) : Fn 133 [mV nm st v] w (fun r _ => r = headV nm st cs) := by
  (refine callsV_of mix Try.func133 c_sLeadHead ?_; simp only [↓vsd, vsn, gW, qd, qv, ev, pick, argE, zipE, ne_eq, eq_self, forall_const, implies_true, if_true, if_false, reduceIte, reduceCtorEq, Nat.reduceEqDiff, Nat.reduceAdd, Nat.reduceLT, ↓us_sLeadHead, r_sLeadHead])
  refine m_al ?_
  rintro b w1 hb hblk hx1 hs1
  have h1 : Blk w1 b (fM nm st v) 41 := hblk
  have hq1 := h.ext hx1
  simp only [↓vsd, vsn, gW, qd, qv, ev, pick, argE, zipE, ne_eq, eq_self, forall_const, implies_true, if_true, if_false, reduceIte, reduceCtorEq, Nat.reduceEqDiff, Nat.reduceAdd, Nat.reduceLT, ↓us_sLeadHead, r_sLeadHead, h1.facts, fMg]
  refine m_call (sl4Good_ok nm st v cs hnm hs hl _ hq1) ?_
  rintro _ w2 hx2 rfl
  have h2 := h1.ext hx2
  have hq2 := hq1.ext hx2
  by_cases hm : IsMethod nm st cs
  · simp only [↓vsd, vsn, gW, qd, qv, ev, pick, argE, zipE, ne_eq, eq_self, forall_const, implies_true, if_true, if_false, reduceIte, reduceCtorEq, Nat.reduceEqDiff, Nat.reduceAdd, Nat.reduceLT, ↓us_sLeadHead, r_sLeadHead, hm, h2.facts, fMg]
    refine m_call (sl4Head_ok nm st v cs hm _ hq2) ?_
    rintro _ w3 hx3 rfl
    simp only [↓vsd, vsn, gW, qd, qv, ev, pick, argE, zipE, ne_eq, eq_self, forall_const, implies_true, if_true, if_false, reduceIte, reduceCtorEq, Nat.reduceEqDiff, Nat.reduceAdd, Nat.reduceLT, ↓us_sLeadHead, r_sLeadHead]
    exact ⟨(hx1.trans hx2).trans hx3, by rw [headV, if_pos hm]⟩
  · simp only [↓vsd, vsn, gW, qd, qv, ev, pick, argE, zipE, ne_eq, eq_self, forall_const, implies_true, if_true, if_false, reduceIte, reduceCtorEq, Nat.reduceEqDiff, Nat.reduceAdd, Nat.reduceLT, ↓us_sLeadHead, r_sLeadHead, hm]
    exact ⟨hx1.trans hx2, by rw [headV, if_neg hm]⟩
theorem iLeadHead_ok (nm : List UInt8) (st : Int) (v : Value) (cs : List (List UInt8)) (hnm : nm.length ≤ 1048576) (hs : ∀ c ∈ cs, c.length ≤ 1048576) (hl : cs.length ≤ 1000000000) (w : World) (h : Sq fS 1 w v cs) : Fn 36 [mV nm st v] w (fun r _ => r = headV nm st cs) := by
  (refine callsV_of mix Try.func36 c_iLeadHead ?_; simp only [↓vsd, vsn, gW, qd, qv, ev, pick, argE, zipE, ne_eq, eq_self, forall_const, implies_true, if_true, if_false, reduceIte, reduceCtorEq, Nat.reduceEqDiff, Nat.reduceAdd, Nat.reduceLT, ↓us_iLeadHead, r_iLeadHead])
  refine m_al ?_
  rintro b w1 hb hblk hx1 hs1
  have h1 : Blk w1 b (fM nm st v) 41 := hblk
  have hq1 := h.ext hx1
  simp only [↓vsd, vsn, gW, qd, qv, ev, pick, argE, zipE, ne_eq, eq_self, forall_const, implies_true, if_true, if_false, reduceIte, reduceCtorEq, Nat.reduceEqDiff, Nat.reduceAdd, Nat.reduceLT, ↓us_iLeadHead, r_iLeadHead, h1.facts, fMg]
  refine m_call (iGoodMethod_ok nm st v cs hnm hs hl _ hq1) ?_
  rintro _ w2 hx2 rfl
  have h2 := h1.ext hx2
  have hq2 := hq1.ext hx2
  by_cases hm : IsMethod nm st cs
  · simp only [↓vsd, vsn, gW, qd, qv, ev, pick, argE, zipE, ne_eq, eq_self, forall_const, implies_true, if_true, if_false, reduceIte, reduceCtorEq, Nat.reduceEqDiff, Nat.reduceAdd, Nat.reduceLT, ↓us_iLeadHead, r_iLeadHead, hm, h2.facts, fMg]
    refine m_call (ileadHead_ok nm st v cs hm _ hq2) ?_
    rintro _ w3 hx3 rfl
    simp only [↓vsd, vsn, gW, qd, qv, ev, pick, argE, zipE, ne_eq, eq_self, forall_const, implies_true, if_true, if_false, reduceIte, reduceCtorEq, Nat.reduceEqDiff, Nat.reduceAdd, Nat.reduceLT, ↓us_iLeadHead, r_iLeadHead]
    exact ⟨(hx1.trans hx2).trans hx3, by rw [headV, if_pos hm]⟩
  · simp only [↓vsd, vsn, gW, qd, qv, ev, pick, argE, zipE, ne_eq, eq_self, forall_const, implies_true, if_true, if_false, reduceIte, reduceCtorEq, Nat.reduceEqDiff, Nat.reduceAdd, Nat.reduceLT, ↓us_iLeadHead, r_iLeadHead, hm]
    exact ⟨hx1.trans hx2, by rw [headV, if_neg hm]⟩
end Go.Proofs.Ytpnopboffalfnaa
