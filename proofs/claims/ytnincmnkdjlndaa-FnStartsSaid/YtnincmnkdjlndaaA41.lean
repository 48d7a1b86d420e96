/-
  Are two methods the same; have two calls the same head: of both sides.
  Conditions: none.
-/
import Derived.Test.YtnincmnkdjlndaaA40
set_option linter.unusedSimpArgs false
set_option linter.unusedVariables false
set_option linter.defProp false
namespace Go.Proofs.Ytnincmnkdjlndaa
open Go Go.RowKit
section
variable (P : Program) (k : KT) (e : Env) (w : World)
abbrev b186_1 : X := (.cond (.t 10) (.seq (.reg [4] (.c (.q 4 [] (.mv (.c (.bool false)))) .nil)) .ret) .skip)
def t186_1 := b186_1
theorem u186_1 : vcK P t186_1 k e w = vcK P b186_1 k e w := rfl
abbrev b186_2 : X := (.cond (.t 24) (.seq (.reg [4] (.c (.q 4 [] (.mv (.c (.bool false)))) .nil)) .ret) .skip)
def t186_2 := b186_2
theorem u186_2 : vcK P t186_2 k e w = vcK P b186_2 k e w := rfl
abbrev b186_3 : X := (.seq (.drw [0, 1, 12, 13, 24] (.c (.q 16 [] (.mv (.t 0))) (.c (.q 17 [] (.mv (.t 5))) (.c (.q 18 [] (.ia 1 (.t 16) (.t 17))) (.c (.q 19 [] (.ld (.t 18))) (.c (.q 20 [] (.mv (.t 1))) (.c (.q 21 [] (.mv (.t 5))) (.c (.q 22 [] (.ia 1 (.t 20) (.t 21))) (.c (.q 23 [] (.ld (.t 22))) (.c (.q 24 [] (.bin .neq (.t 19) (.t 23))) .nil)))))))))) t186_2)
def t186_3 := b186_3
theorem u186_3 : vcK P t186_3 k e w = vcK P b186_3 k e w := rfl
abbrev b186_4 : X := (.reg [0, 1, 12, 13] (.c (.q 25 [] (.bin .add (.t 13) (.c (.int .i64 1)))) (.c (.q 13 [] (.mv (.t 25))) .nil)))
def t186_4 := b186_4
theorem u186_4 : vcK P t186_4 k e w = vcK P b186_4 k e w := rfl
abbrev b186_5 : X := (.seq (.blk 1 (.seq (.reg [0, 1, 5, 12, 13] (.c (.q 15 [] (.mv (.t 13))) (.c (.q 5 [] (.mv (.t 15))) .nil))) t186_3)) t186_4)
def t186_5 := b186_5
theorem u186_5 : vcK P t186_5 k e w = vcK P b186_5 k e w := rfl
abbrev b186_6 : X := (.seq (.cond (.t 14) .skip (.exit 0)) t186_5)
def t186_6 := b186_6
theorem u186_6 : vcK P t186_6 k e w = vcK P b186_6 k e w := rfl
abbrev b186_7 : X := (.seq (.reg [0, 1, 12, 13, 14] (.c (.q 14 [] (.bin .lss (.t 13) (.t 12))) .nil)) t186_6)
def t186_7 := b186_7
theorem u186_7 : vcK P t186_7 k e w = vcK P b186_7 k e w := rfl
abbrev b186_8 : X := (.blk 0 (.loop [13] [0, 1, 12] t186_7))
def t186_8 := b186_8
theorem u186_8 : vcK P t186_8 k e w = vcK P b186_8 k e w := rfl
abbrev b186_9 : X := (.seq (.reg [4] (.c (.q 4 [] (.mv (.c (.bool true)))) .nil)) .ret)
def t186_9 := b186_9
theorem u186_9 : vcK P t186_9 k e w = vcK P b186_9 k e w := rfl
abbrev b186_10 : X := (.seq (.seq (.reg [0, 1, 12, 13] (.c (.q 11 [] (.mv (.t 0))) (.c (.q 12 [] (.lens (.t 11))) (.c (.q 13 [] (.mv (.c (.int .i64 0)))) .nil)))) t186_8) t186_9)
def t186_10 := b186_10
theorem u186_10 : vcK P t186_10 k e w = vcK P b186_10 k e w := rfl
abbrev b186_11 : X := (.seq (.seq (.reg [0, 1, 10] (.c (.q 6 [] (.mv (.t 0))) (.c (.q 7 [] (.lens (.t 6))) (.c (.q 8 [] (.mv (.t 1))) (.c (.q 9 [] (.lens (.t 8))) (.c (.q 10 [] (.bin .neq (.t 7) (.t 9))) .nil)))))) t186_1) t186_10)
def t186_11 := b186_11
theorem u186_11 : vcK P t186_11 k e w = vcK P b186_11 k e w := rfl
abbrev b186_0 : X := (.seq (.reg [0, 1] (.c (.q 4 [] (.mv (.c (.bool false)))) .nil)) t186_11)
def x_sl1SameS := b186_0
theorem u186_0 : vcK P x_sl1SameS k e w = vcK P b186_0 k e w := rfl
def r_sl1SameS : List XO := [(.mv (.t 4))]
theorem c_sl1SameS : convF Try.prog [147, 148, 152, 160, 162, 163, 170, 178, 206, 208, 210, 224, 233, 235, 236, 251, 264, 265, 268, 270, 287, 322] Try.f186 [([0, 1], []), ([0, 1, 10], []), ([4], []), ([0, 1, 12, 13], []), ([13], [0, 1, 12]), ([0, 1, 12, 13, 14], []), ([0, 1, 5, 12, 13], []), ([0, 1, 12, 13, 24], []), ([4], []), ([0, 1, 12, 13], []), ([4], [])] = some (x_sl1SameS, r_sl1SameS) := by kernel_rfl
def us_sl1SameS :=  (aI (aI (aI @u186_0 (aI @u186_1 @u186_2)) (aI @u186_3 (aI @u186_4 @u186_5))) (aI (aI @u186_6 (aI @u186_7 @u186_8)) (aI @u186_9 (aI @u186_10 @u186_11))))
abbrev b60_1 : X := (.seq (.reg [4] (.c (.q 5 [] (.fa 0 (.t 2))) (.c (.q 6 [] (.ld (.t 5))) (.c (.q 7 [] (.fa 0 (.t 3))) (.c (.q 8 [] (.ld (.t 7))) (.c (.q 9 [] (.bin .eql (.t 6) (.t 8))) (.c (.q 10 [] (.mv (.t 9))) (.c (.q 11 [(10, true)] (.fa 1 (.t 2))) (.c (.q 12 [(10, true)] (.ld (.t 11))) (.c (.q 13 [(10, true)] (.fa 1 (.t 3))) (.c (.q 14 [(10, true)] (.ld (.t 13))) (.c (.q 15 [(10, true)] (.bin .eql (.t 12) (.t 14))) (.c (.q 16 [] (.pick (.t 10) (.t 15) (.c (.bool false)))) (.c (.q 17 [] (.mv (.t 16))) (.c (.q 18 [(17, true)] (.fa 2 (.t 2))) (.c (.q 19 [(17, true)] (.ld (.t 18))) (.c (.q 20 [(17, true)] (.fa 2 (.t 3))) (.c (.q 21 [(17, true)] (.ld (.t 20))) (.c (.e (some 22) [(17, true)] (.call false 186 [(.t 19), (.t 21)])) (.c (.q 23 [] (.pick (.t 17) (.t 22) (.c (.bool false)))) (.c (.q 4 [] (.mv (.t 23))) .nil))))))))))))))))))))) .ret)
def t60_1 := b60_1
theorem u60_1 : vcK P t60_1 k e w = vcK P b60_1 k e w := rfl
abbrev b60_0 : X := (.seq (.reg [2, 3] (.c (.e (some 2) [] (.box 26 (.t 0))) (.c (.e (some 3) [] (.box 26 (.t 1))) (.c (.q 4 [] (.mv (.c (.bool false)))) .nil)))) t60_1)
def x_sSameMethod := b60_0
theorem u60_0 : vcK P x_sSameMethod k e w = vcK P b60_0 k e w := rfl
def r_sSameMethod : List XO := [(.mv (.t 4))]
theorem c_sSameMethod : convF Try.prog [147, 148, 152, 160, 162, 163, 170, 178, 206, 208, 210, 224, 233, 235, 236, 251, 264, 265, 268, 270, 287, 322] Try.f60 [([2, 3], []), ([4], [])] = some (x_sSameMethod, r_sSameMethod) := by kernel_rfl
def us_sSameMethod :=  (aI @u60_0 @u60_1)
end

theorem sl1SameS_ok (v1 v2 : Value) (l1 l2 : List (List UInt8)) (w : World) (h1 : Sq fS 1 w v1 l1) (h2 : Sq fS 1 w v2 l2) (hl : l1.length ≤ 1000000000) : Fn 186 [v1, v2] w (fun v _ => v = .bool (decide (l1 = l2))) := by
  (refine callsV_of mix Try.func186 c_sl1SameS ?_; simp only [↓vsd, vsn, gW, qd, qv, ev, pick, argE, zipE, ne_eq, eq_self, forall_const, implies_true, if_true, if_false, reduceIte, reduceCtorEq, Nat.reduceEqDiff, Nat.reduceAdd, Nat.reduceLT, ↓us_sl1SameS, r_sl1SameS])
  simp only [↓vsd, vsn, gW, qd, qv, ev, pick, argE, zipE, ne_eq, eq_self, forall_const, implies_true, if_true, if_false, reduceIte, reduceCtorEq, Nat.reduceEqDiff, Nat.reduceAdd, Nat.reduceLT, ↓us_sl1SameS, r_sl1SameS, h1.facts, h2.facts]
  refine ⟨fun hne => ⟨Ext.refl _, ?_⟩, fun he => ?_⟩
  · have : ¬ l1 = l2 := fun e => hne (by rw [e])
    simp [this]
  refine m_upto l1.length (fun k vs w' => vs = [.int .i64 k] ∧ l1.take k = l2.take k ∧ Ext w w') ⟨rfl, rfl, Ext.refl _⟩ ?_
  rintro k vs w3 hk ⟨rfl, heq, hx⟩
  have g1 := h1.ext hx
  have g2 := h2.ext hx
  by_cases hlt : k < l1.length
  · have hlt2 : k < l2.length := by omega
    have hltI : (k : Int) < l1.length := by omega
    have hltJ : ¬ (l1.length : Int) ≤ k := by omega
    simp only [↓vsd, vsn, gW, qd, qv, ev, pick, argE, zipE, ne_eq, eq_self, forall_const, implies_true, if_true, if_false, reduceIte, reduceCtorEq, Nat.reduceEqDiff, Nat.reduceAdd, Nat.reduceLT, ↓us_sl1SameS, r_sl1SameS, g1.facts, g2.facts, g1.at1 [] hlt, g2.at1 [] hlt2, hltI, hltJ]
    exact ⟨by omega, by omega, fun hne => ⟨by first | exact hx | exact dr hx, by simp [ne_at k hne]⟩, fun he2 => ⟨inR_i64 (by omega), UpTo.next hlt ⟨rfl, eq_take heq hlt hlt2 he2, by first | exact hx | exact dr hx⟩⟩⟩
  · obtain rfl : k = l1.length := by omega
    have hltI : ¬ (l1.length : Int) < l1.length := by omega
    simp only [↓vsd, vsn, gW, qd, qv, ev, pick, argE, zipE, ne_eq, eq_self, forall_const, implies_true, if_true, if_false, reduceIte, reduceCtorEq, Nat.reduceEqDiff, Nat.reduceAdd, Nat.reduceLT, ↓us_sl1SameS, r_sl1SameS, g1.facts, hltI]
    exact ⟨hx, by simp [eq_len heq (by omega)]⟩
theorem sSameMethod_ok (nm nm' : List UInt8) (st st' : Int) (v v' : Value) (cs cs' : List (List UInt8)) (hl : cs.length ≤ 1000000000) (w : World) (h : Sq fS 1 w v cs) (h' : Sq fS 1 w v' cs') : Fn 60 [mV nm st v, mV nm' st' v'] w (fun r _ => r = .bool (decide (nm = nm' ∧ st = st' ∧ cs = cs'))) := by
  (refine callsV_of mix Try.func60 c_sSameMethod ?_; simp only [↓vsd, vsn, gW, qd, qv, ev, pick, argE, zipE, ne_eq, eq_self, forall_const, implies_true, if_true, if_false, reduceIte, reduceCtorEq, Nat.reduceEqDiff, Nat.reduceAdd, Nat.reduceLT, ↓us_sSameMethod, r_sSameMethod])
  refine m_al ?_
  rintro b1 w1 hb1 hblk1 hx1 hs1
  have h1 : Blk w1 b1 (fM nm st v) 26 := hblk1
  simp only [↓vsd, vsn, gW, qd, qv, ev, pick, argE, zipE, ne_eq, eq_self, forall_const, implies_true, if_true, if_false, reduceIte, reduceCtorEq, Nat.reduceEqDiff, Nat.reduceAdd, Nat.reduceLT, ↓us_sSameMethod, r_sSameMethod]
  refine m_al ?_
  rintro b2 w2 hb2 hblk2 hx2 hs2
  have h2 : Blk w2 b2 (fM nm' st' v') 26 := hblk2
  have h12 := h1.ext hx2
  have hx12 := hx1.trans hx2
  by_cases e1 : nm = nm'
  · by_cases e2 : st = st'
    · subst e1; subst e2
      simp only [↓vsd, vsn, gW, qd, qv, ev, pick, argE, zipE, ne_eq, eq_self, forall_const, implies_true, if_true, if_false, reduceIte, reduceCtorEq, Nat.reduceEqDiff, Nat.reduceAdd, Nat.reduceLT, ↓us_sSameMethod, r_sSameMethod, h12.facts, h2.facts, fMg]
      refine m_call (sl1SameS_ok v v' cs cs' _ (by first | exact h.ext hx12 | exact h.ext (dr hx12)) (by first | exact h'.ext hx12 | exact h'.ext (dr hx12)) hl) ?_
      rintro _ w3 hx3 rfl
      have hx3 : Ext w2 w3 := by first | exact hx3 | exact ud hx3 | exact ud (ud hx3)
      simp only [↓vsd, vsn, gW, qd, qv, ev, pick, argE, zipE, ne_eq, eq_self, forall_const, implies_true, if_true, if_false, reduceIte, reduceCtorEq, Nat.reduceEqDiff, Nat.reduceAdd, Nat.reduceLT, ↓us_sSameMethod, r_sSameMethod]
      exact hx12.trans hx3
    · simp only [↓vsd, vsn, gW, qd, qv, ev, pick, argE, zipE, ne_eq, eq_self, forall_const, implies_true, if_true, if_false, reduceIte, reduceCtorEq, Nat.reduceEqDiff, Nat.reduceAdd, Nat.reduceLT, ↓us_sSameMethod, r_sSameMethod, h12.facts, h2.facts, fMg, e1, e2]
      exact hx12
  · simp only [↓vsd, vsn, gW, qd, qv, ev, pick, argE, zipE, ne_eq, eq_self, forall_const, implies_true, if_true, if_false, reduceIte, reduceCtorEq, Nat.reduceEqDiff, Nat.reduceAdd, Nat.reduceLT, ↓us_sSameMethod, r_sSameMethod, h12.facts, h2.facts, fMg, e1]
    exact hx12
/-- Are two calls asked of a method and its calls? -/
def SameOk (nm : List UInt8) (st : Int) (cs : List (List UInt8)) (b s p q : List UInt8) : Prop := IsMC nm st cs b s ∧ IsCall p ∧ IsCall q
instance (nm : List UInt8) (st : Int) (cs : List (List UInt8)) (b s p q : List UInt8) : Decidable (SameOk nm st cs b s p q) := by unfold SameOk; infer_instance
def slV (nm : List UInt8) (st : Int) (cs : List (List UInt8)) (b s p q : List UInt8) : Value := if SameOk nm st cs b s p q then .tuple ⟨[.bool (decide (headC st.toNat cs b s p = headC st.toNat cs b s q)), .bool true]⟩ else .tuple ⟨[.bool false, .bool false]⟩
section
variable (nm : List UInt8) (st : Int) (v : Value) (cs : List (List UInt8)) (b s p q : List UInt8) (hnm : nm.length ≤ 1048576) (hs : ∀ c ∈ cs, c.length ≤ 1048576) (hl : cs.length ≤ 1000000000) (hb : b.length ≤ 1048576 ∧ s.length ≤ 1048576)
include hnm hs hl hb
end
end Go.Proofs.Ytnincmnkdjlndaa
