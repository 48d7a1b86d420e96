/-
  Lead heads, of both sides.
  Conditions: none.
-/
import Derived.Test.YtnincmnkdjlndaaA11
import Derived.Test.YtnincmnkdjlndaaVw
set_option linter.unusedSimpArgs false
set_option linter.unusedVariables false
set_option linter.defProp false
namespace Go.Proofs.Ytnincmnkdjlndaa
open Go Go.RowKit
section
variable (P : Program) (k : KT) (e : Env) (w : World)
abbrev b22_1 : X := (.cond (.t 6) (.seq (.reg [2, 3] (.c (.q 2 [] (.mv (.s []))) (.c (.q 3 [] (.mv (.c (.bool false)))) .nil))) .ret) .skip)
def t22_1 := b22_1
theorem u22_1 : vcK P t22_1 k e w = vcK P b22_1 k e w := rfl
abbrev b22_2 : X := (.seq (.reg [2, 3] (.c (.q 7 [] (.lda 3 (.t 1))) (.c (.e (some 8) [] (.call false 146 [(.t 7)])) (.c (.q 2 [] (.mv (.t 8))) (.c (.q 3 [] (.mv (.c (.bool true)))) .nil))))) .ret)
def t22_2 := b22_2
theorem u22_2 : vcK P t22_2 k e w = vcK P b22_2 k e w := rfl
abbrev b22_3 : X := (.seq (.seq (.reg [1, 6] (.c (.q 4 [] (.lda 3 (.t 1))) (.c (.e (some 5) [] (.call false 135 [(.t 4)])) (.c (.q 6 [] (.not (.t 5))) .nil)))) t22_1) t22_2)
def t22_3 := b22_3
theorem u22_3 : vcK P t22_3 k e w = vcK P b22_3 k e w := rfl
abbrev b22_0 : X := (.seq (.reg [1] (.c (.e (some 1) [] (.box 26 (.t 0))) (.c (.q 2 [] (.mv (.s []))) (.c (.q 3 [] (.mv (.c (.bool false)))) .nil)))) t22_3)
def x_iLeadHead := b22_0
theorem u22_0 : vcK P x_iLeadHead k e w = vcK P b22_0 k e w := rfl
def r_iLeadHead : List XO := [(.mv (.t 2)), (.mv (.t 3))]
theorem c_iLeadHead : convF Try.prog [147, 148, 152, 160, 162, 163, 170, 178, 206, 208, 210, 224, 233, 235, 236, 251, 264, 265, 268, 270, 287, 322] Try.f22 [([1], []), ([1, 6], []), ([2, 3], []), ([2, 3], [])] = some (x_iLeadHead, r_iLeadHead) := by kernel_rfl
def us_iLeadHead :=  (aI (aI @u22_0 @u22_1) (aI @u22_2 @u22_3))
end

def headV (nm : List UInt8) (st : Int) (cs : List (List UInt8)) : Value := if IsMethod nm st cs then .tuple ⟨[S (underL (roundsL st.toNat) cs), .bool true]⟩ else .tuple ⟨[S [], .bool false]⟩
theorem iLeadHead_ok (nm : List UInt8) (st : Int) (v : Value) (cs : List (List UInt8)) (hnm : nm.length ≤ 1048576) (hs : ∀ c ∈ cs, c.length ≤ 1048576) (hl : cs.length ≤ 1000000000) (w : World) (h : Sq fS 1 w v cs) : Fn 22 [mV nm st v] w (fun r _ => r = headV nm st cs) := by
  (refine callsV_of mix Try.func22 c_iLeadHead ?_; simp only [↓vsd, vsn, gW, qd, qv, ev, pick, argE, zipE, ne_eq, eq_self, forall_const, implies_true, if_true, if_false, reduceIte, reduceCtorEq, Nat.reduceEqDiff, Nat.reduceAdd, Nat.reduceLT, ↓us_iLeadHead, r_iLeadHead])
  refine m_al ?_
  rintro b w1 hb hblk hx1 hs1
  have h1 : Blk w1 b (fM nm st v) 26 := hblk
  have hq1 := h.ext hx1
  simp only [↓vsd, vsn, gW, qd, qv, ev, pick, argE, zipE, ne_eq, eq_self, forall_const, implies_true, if_true, if_false, reduceIte, reduceCtorEq, Nat.reduceEqDiff, Nat.reduceAdd, Nat.reduceLT, ↓us_iLeadHead, r_iLeadHead, h1.facts, fMg]
  refine m_call (iGoodMethod_ok nm st v cs hnm hs hl _ hq1) ?_
  rintro _ w2 hx2 rfl
  have h2 := h1.ext hx2
  have hq2 := hq1.ext hx2
  by_cases hm : IsMethod nm st cs
  · simp only [↓vsd, vsn, gW, qd, qv, ev, pick, argE, zipE, ne_eq, eq_self, forall_const, implies_true, if_true, if_false, reduceIte, reduceCtorEq, Nat.reduceEqDiff, Nat.reduceAdd, Nat.reduceLT, ↓us_iLeadHead, r_iLeadHead, hm, h2.facts, fMg]
    refine m_call (ileadHead_ok nm st v cs hm _ hq2) ?_
    rintro _ w3 hx3 rfl
    simp only [↓vsd, vsn, gW, qd, qv, ev, pick, argE, zipE, ne_eq, eq_self, forall_const, implies_true, if_true, if_false, reduceIte, reduceCtorEq, Nat.reduceEqDiff, Nat.reduceAdd, Nat.reduceLT, ↓us_iLeadHead, r_iLeadHead]
    exact ⟨(hx1.trans hx2).trans hx3, by rw [headV, if_pos hm]⟩
  · simp only [↓vsd, vsn, gW, qd, qv, ev, pick, argE, zipE, ne_eq, eq_self, forall_const, implies_true, if_true, if_false, reduceIte, reduceCtorEq, Nat.reduceEqDiff, Nat.reduceAdd, Nat.reduceLT, ↓us_iLeadHead, r_iLeadHead, hm]
    exact ⟨hx1.trans hx2, by rw [headV, if_neg hm]⟩
end Go.Proofs.Ytnincmnkdjlndaa
