/-
  Heads of called leads, of both sides.
  Conditions: none.
-/
import Derived.Test.YtnhealghpfjdcaaA31
set_option linter.unusedSimpArgs false
set_option linter.unusedVariables false
set_option linter.defProp false
namespace Go.Proofs.Ytnhealghpfjdcaa
open Go Go.RowKit
section
variable (P : Program) (k : KT) (e : Env) (w : World)
abbrev b124_1 : X := (.cond (.t 12) (.seq (.reg [6, 7] (.c (.q 6 [] (.mv (.s []))) (.c (.q 7 [] (.mv (.c (.bool false)))) .nil))) .ret) .skip)
def t124_1 := b124_1
theorem u124_1 : vcK P t124_1 k e w = vcK P b124_1 k e w := rfl
abbrev b124_2 : X := (.seq (.reg [6, 7] (.c (.q 13 [] (.lda 3 (.t 3))) (.c (.q 14 [] (.lda 2 (.t 4))) (.c (.q 15 [] (.mv (.t 2))) (.c (.e (some 16) [] (.call false 132 [(.t 13), (.t 14), (.t 15)])) (.c (.q 6 [] (.mv (.t 16))) (.c (.q 7 [] (.mv (.c (.bool true)))) .nil))))))) .ret)
def t124_2 := b124_2
theorem u124_2 : vcK P t124_2 k e w = vcK P b124_2 k e w := rfl
abbrev b124_3 : X := (.seq (.seq (.reg [2, 3, 4, 12] (.c (.q 8 [] (.lda 3 (.t 3))) (.c (.q 9 [] (.lda 2 (.t 4))) (.c (.q 10 [] (.mv (.t 2))) (.c (.e (some 11) [] (.call false 169 [(.t 8), (.t 9), (.t 10)])) (.c (.q 12 [] (.not (.t 11))) .nil)))))) t124_1) t124_2)
def t124_3 := b124_3
theorem u124_3 : vcK P t124_3 k e w = vcK P b124_3 k e w := rfl
abbrev b124_0 : X := (.seq (.reg [2, 3, 4] (.c (.e (some 3) [] (.box 31 (.t 0))) (.c (.e (some 4) [] (.box 33 (.t 1))) (.c (.q 6 [] (.mv (.s []))) (.c (.q 7 [] (.mv (.c (.bool false)))) .nil))))) t124_3)
def x_sCallHead := b124_0
theorem u124_0 : vcK P x_sCallHead k e w = vcK P b124_0 k e w := rfl
def r_sCallHead : List XO := [(.mv (.t 6)), (.mv (.t 7))]
theorem c_sCallHead : convF Try.prog [89, 116, 117, 121, 143, 161, 162, 163, 166, 168, 234] Try.f124 [([2, 3, 4], []), ([2, 3, 4, 12], []), ([6, 7], []), ([6, 7], [])] = some (x_sCallHead, r_sCallHead) := by kernel_rfl
def us_sCallHead := aI @u124_0 (aI @u124_1 (aI @u124_2 @u124_3))
end

/-- Is a call asked of a method and its calls? -/
def CallOk (nm : List UInt8) (st : Int) (cs : List (List UInt8)) (b s call : List UInt8) : Prop := IsMC nm st cs b s ∧ IsCall call
instance (nm : List UInt8) (st : Int) (cs : List (List UInt8)) (b s call : List UInt8) : Decidable (CallOk nm st cs b s call) := by unfold CallOk; infer_instance
def chV (nm : List UInt8) (st : Int) (cs : List (List UInt8)) (b s call : List UInt8) : Value := if CallOk nm st cs b s call then .tuple ⟨[S (headC st.toNat cs b s call), .bool true]⟩ else .tuple ⟨[S [], .bool false]⟩
section
variable (nm : List UInt8) (st : Int) (v : Value) (cs : List (List UInt8)) (b s call : List UInt8) (hnm : nm.length ≤ 1048576) (hs : ∀ c ∈ cs, c.length ≤ 1048576) (hl : cs.length ≤ 1000000000) (hb : b.length ≤ 1048576 ∧ s.length ≤ 1048576)
include hnm hs hl hb
theorem sCallHead_ok (w : World) (h : Sq fS 1 w v cs) : Fn 124 [mV nm st v, kV b s, S call] w (fun r _ => r = chV nm st cs b s call) := by
  (refine callsV_of mix Try.func124 c_sCallHead ?_; simp only [↓vsd, vsn, gW, qd, qv, ev, pick, argE, zipE, ne_eq, eq_self, forall_const, implies_true, if_true, if_false, reduceIte, reduceCtorEq, Nat.reduceEqDiff, Nat.reduceAdd, Nat.reduceLT, ↓us_sCallHead, r_sCallHead])
  refine m_al ?_
  rintro b1 w1 hb1 hblk1 hx1 hs1
  have h1 : Blk w1 b1 (fM nm st v) 31 := hblk1
  simp only [↓vsd, vsn, gW, qd, qv, ev, pick, argE, zipE, ne_eq, eq_self, forall_const, implies_true, if_true, if_false, reduceIte, reduceCtorEq, Nat.reduceEqDiff, Nat.reduceAdd, Nat.reduceLT, ↓us_sCallHead, r_sCallHead, h1.facts, fMg]
  refine m_al ?_
  rintro b2 w2 hb2 hblk2 hx2 hs2
  have h2 : Blk w2 b2 (fQ b s) 33 := hblk2
  have h12 := h1.ext hx2
  have hx12 := hx1.trans hx2
  simp only [↓vsd, vsn, gW, qd, qv, ev, pick, argE, zipE, ne_eq, eq_self, forall_const, implies_true, if_true, if_false, reduceIte, reduceCtorEq, Nat.reduceEqDiff, Nat.reduceAdd, Nat.reduceLT, ↓us_sCallHead, r_sCallHead, h12.facts, h2.facts, fMg, fQg]
  refine m_call (sl8Asked_ok nm st v cs b s call hnm hs hl hb _ (h.ext hx12)) ?_
  rintro _ w3 hx3 rfl
  have hx13 := hx12.trans hx3
  have h13 := h12.ext hx3
  have h23 := h2.ext hx3
  by_cases hM : IsMC nm st cs b s ∧ IsCall call
  · obtain ⟨n, rfl⟩ : ∃ n : Nat, st = n := ⟨st.toNat, by have := hM.1.1.2.1; omega⟩
    simp only [↓vsd, vsn, gW, qd, qv, ev, pick, argE, zipE, ne_eq, eq_self, forall_const, implies_true, if_true, if_false, reduceIte, reduceCtorEq, Nat.reduceEqDiff, Nat.reduceAdd, Nat.reduceLT, ↓us_sCallHead, r_sCallHead, hM, h13.facts, h23.facts, fMg, fQg]
    refine m_call (sl8Head_ok nm n v cs b s call hM.1 _ (h.ext hx13)) ?_
    rintro _ w4 hx4 rfl
    simp only [↓vsd, vsn, gW, qd, qv, ev, pick, argE, zipE, ne_eq, eq_self, forall_const, implies_true, if_true, if_false, reduceIte, reduceCtorEq, Nat.reduceEqDiff, Nat.reduceAdd, Nat.reduceLT, ↓us_sCallHead, r_sCallHead]
    exact ⟨hx13.trans hx4, by rw [chV, if_pos (show CallOk nm n cs b s call from hM)]; rfl⟩
  · simp only [↓vsd, vsn, gW, qd, qv, ev, pick, argE, zipE, ne_eq, eq_self, forall_const, implies_true, if_true, if_false, reduceIte, reduceCtorEq, Nat.reduceEqDiff, Nat.reduceAdd, Nat.reduceLT, ↓us_sCallHead, r_sCallHead, hM]
    exact ⟨hx13, by rw [chV, if_neg (show ¬ CallOk nm st cs b s call from hM)]⟩
end
end Go.Proofs.Ytnhealghpfjdcaa
