/-
  Are two methods the same; have two calls the same head: of both sides.
  Conditions: none.
-/
import Derived.Test.YtpnopboffalfnaaA40
set_option linter.unusedSimpArgs false
set_option linter.unusedVariables false
set_option linter.defProp false
namespace Go.Proofs.Ytpnopboffalfnaa
open Go Go.RowKit
section
variable (P : Program) (k : KT) (e : Env) (w : World)
abbrev b175_1 : X := (.cond (.t 10) (.seq (.reg [4] (.c (.q 4 [] (.mv (.c (.bool false)))) .nil)) .ret) .skip)
def t175_1 := b175_1
theorem u175_1 : vcK P t175_1 k e w = vcK P b175_1 k e w := rfl
abbrev b175_2 : X := (.cond (.t 24) (.seq (.reg [4] (.c (.q 4 [] (.mv (.c (.bool false)))) .nil)) .ret) .skip)
def t175_2 := b175_2
theorem u175_2 : vcK P t175_2 k e w = vcK P b175_2 k e w := rfl
abbrev b175_3 : X := (.seq (.drw [0, 1, 12, 13, 24] (.c (.q 16 [] (.mv (.t 0))) (.c (.q 17 [] (.mv (.t 5))) (.c (.q 18 [] (.ia 1 (.t 16) (.t 17))) (.c (.q 19 [] (.ld (.t 18))) (.c (.q 20 [] (.mv (.t 1))) (.c (.q 21 [] (.mv (.t 5))) (.c (.q 22 [] (.ia 1 (.t 20) (.t 21))) (.c (.q 23 [] (.ld (.t 22))) (.c (.q 24 [] (.bin .neq (.t 19) (.t 23))) .nil)))))))))) t175_2)
def t175_3 := b175_3
theorem u175_3 : vcK P t175_3 k e w = vcK P b175_3 k e w := rfl
abbrev b175_4 : X := (.reg [0, 1, 12, 13] (.c (.q 25 [] (.bin .add (.t 13) (.c (.int .i64 1)))) (.c (.q 13 [] (.mv (.t 25))) .nil)))
def t175_4 := b175_4
theorem u175_4 : vcK P t175_4 k e w = vcK P b175_4 k e w := rfl
abbrev b175_5 : X := (.seq (.blk 1 (.seq (.reg [0, 1, 5, 12, 13] (.c (.q 15 [] (.mv (.t 13))) (.c (.q 5 [] (.mv (.t 15))) .nil))) t175_3)) t175_4)
def t175_5 := b175_5
theorem u175_5 : vcK P t175_5 k e w = vcK P b175_5 k e w := rfl
abbrev b175_6 : X := (.seq (.cond (.t 14) .skip (.exit 0)) t175_5)
def t175_6 := b175_6
theorem u175_6 : vcK P t175_6 k e w = vcK P b175_6 k e w := rfl
abbrev b175_7 : X := (.seq (.reg [0, 1, 12, 13, 14] (.c (.q 14 [] (.bin .lss (.t 13) (.t 12))) .nil)) t175_6)
def t175_7 := b175_7
theorem u175_7 : vcK P t175_7 k e w = vcK P b175_7 k e w := rfl
abbrev b175_8 : X := (.blk 0 (.loop [13] [0, 1, 12] t175_7))
def t175_8 := b175_8
theorem u175_8 : vcK P t175_8 k e w = vcK P b175_8 k e w := rfl
abbrev b175_9 : X := (.seq (.reg [4] (.c (.q 4 [] (.mv (.c (.bool true)))) .nil)) .ret)
def t175_9 := b175_9
theorem u175_9 : vcK P t175_9 k e w = vcK P b175_9 k e w := rfl
abbrev b175_10 : X := (.seq (.seq (.reg [0, 1, 12, 13] (.c (.q 11 [] (.mv (.t 0))) (.c (.q 12 [] (.lens (.t 11))) (.c (.q 13 [] (.mv (.c (.int .i64 0)))) .nil)))) t175_8) t175_9)
def t175_10 := b175_10
theorem u175_10 : vcK P t175_10 k e w = vcK P b175_10 k e w := rfl
abbrev b175_11 : X := (.seq (.seq (.reg [0, 1, 10] (.c (.q 6 [] (.mv (.t 0))) (.c (.q 7 [] (.lens (.t 6))) (.c (.q 8 [] (.mv (.t 1))) (.c (.q 9 [] (.lens (.t 8))) (.c (.q 10 [] (.bin .neq (.t 7) (.t 9))) .nil)))))) t175_1) t175_10)
def t175_11 := b175_11
theorem u175_11 : vcK P t175_11 k e w = vcK P b175_11 k e w := rfl
abbrev b175_0 : X := (.seq (.reg [0, 1] (.c (.q 4 [] (.mv (.c (.bool false)))) .nil)) t175_11)
def x_sl1SameS := b175_0
theorem u175_0 : vcK P x_sl1SameS k e w = vcK P b175_0 k e w := rfl
def r_sl1SameS : List XO := [(.mv (.t 4))]
theorem c_sl1SameS : convF Try.prog [169, 170, 207, 208, 210, 227, 232, 233, 255, 259, 268, 269, 270, 280, 281, 296, 299, 306, 307, 309] Try.f175 [([0, 1], []), ([0, 1, 10], []), ([4], []), ([0, 1, 12, 13], []), ([13], [0, 1, 12]), ([0, 1, 12, 13, 14], []), ([0, 1, 5, 12, 13], []), ([0, 1, 12, 13, 24], []), ([4], []), ([0, 1, 12, 13], []), ([4], [])] = some (x_sl1SameS, r_sl1SameS) := by kernel_rfl
def us_sl1SameS := aI @u175_0 (aI @u175_1 (aI @u175_2 (aI @u175_3 (aI @u175_4 (aI @u175_5 (aI @u175_6 (aI @u175_7 (aI @u175_8 (aI @u175_9 (aI @u175_10 @u175_11))))))))))
abbrev b35_1 : X := (.seq (.reg [4] (.c (.q 5 [] (.fa 0 (.t 2))) (.c (.q 6 [] (.ld (.t 5))) (.c (.q 7 [] (.fa 0 (.t 3))) (.c (.q 8 [] (.ld (.t 7))) (.c (.q 9 [] (.bin .eql (.t 6) (.t 8))) (.c (.q 10 [] (.mv (.t 9))) (.c (.q 11 [(10, true)] (.fa 1 (.t 2))) (.c (.q 12 [(10, true)] (.ld (.t 11))) (.c (.q 13 [(10, true)] (.fa 1 (.t 3))) (.c (.q 14 [(10, true)] (.ld (.t 13))) (.c (.q 15 [(10, true)] (.bin .eql (.t 12) (.t 14))) (.c (.q 16 [] (.pick (.t 10) (.t 15) (.c (.bool false)))) (.c (.q 17 [] (.mv (.t 16))) (.c (.q 18 [(17, true)] (.fa 2 (.t 2))) (.c (.q 19 [(17, true)] (.ld (.t 18))) (.c (.q 20 [(17, true)] (.fa 2 (.t 3))) (.c (.q 21 [(17, true)] (.ld (.t 20))) (.c (.e (some 22) [(17, true)] (.call false 175 [(.t 19), (.t 21)])) (.c (.q 23 [] (.pick (.t 17) (.t 22) (.c (.bool false)))) (.c (.q 4 [] (.mv (.t 23))) .nil))))))))))))))))))))) .ret)
def t35_1 := b35_1
theorem u35_1 : vcK P t35_1 k e w = vcK P b35_1 k e w := rfl
abbrev b35_0 : X := (.seq (.reg [2, 3] (.c (.e (some 2) [] (.box 41 (.t 0))) (.c (.e (some 3) [] (.box 41 (.t 1))) (.c (.q 4 [] (.mv (.c (.bool false)))) .nil)))) t35_1)
def x_sSameMethod := b35_0
theorem u35_0 : vcK P x_sSameMethod k e w = vcK P b35_0 k e w := rfl
def r_sSameMethod : List XO := [(.mv (.t 4))]
theorem c_sSameMethod : convF Try.prog [169, 170, 207, 208, 210, 227, 232, 233, 255, 259, 268, 269, 270, 280, 281, 296, 299, 306, 307, 309] Try.f35 [([2, 3], []), ([4], [])] = some (x_sSameMethod, r_sSameMethod) := by kernel_rfl
def us_sSameMethod := aI @u35_0 @u35_1
end

theorem sl1SameS_ok (v1 v2 : Value) (l1 l2 : List (List UInt8)) (w : World) (h1 : Sq fS 1 w v1 l1) (h2 : Sq fS 1 w v2 l2) (hl : l1.length ≤ 1000000000) : Fn 175 [v1, v2] w (fun v _ => v = .bool (decide (l1 = l2))) := by
  (refine callsV_of mix Try.func175 c_sl1SameS ?_; simp only [↓vsd, vsn, gW, qd, qv, ev, pick, argE, zipE, ne_eq, eq_self, forall_const, implies_true, if_true, if_false, reduceIte, reduceCtorEq, Nat.reduceEqDiff, Nat.reduceAdd, Nat.reduceLT, ↓us_sl1SameS, r_sl1SameS])
  simp only [↓vsd, vsn, gW, qd, qv, ev, pick, argE, zipE, ne_eq, eq_self, forall_const, implies_true, if_true, if_false, reduceIte, reduceCtorEq, Nat.reduceEqDiff, Nat.reduceAdd, Nat.reduceLT, ↓us_sl1SameS, r_sl1SameS, h1.facts, h2.facts]
  refine ⟨fun hne => ⟨Ext.refl _, ?_⟩, fun he => ?_⟩
  · have : ¬ l1 = l2 := fun e => hne (by rw [e])
    simp [this]
  refine m_upto l1.length (fun k vs w' => vs = [.int .i64 k] ∧ l1.take k = l2.take k ∧ Ext w w') ⟨rfl, rfl, Ext.refl _⟩ ?_
  rintro k vs w3 hk ⟨rfl, heq, hx⟩
  have g1 := h1.ext hx
  have g2 := h2.ext hx
  by_cases hlt : k < l1.length
  · have hlt2 : k < l2.length := by omega
    have hltI : (k : Int) < l1.length := by omega
    have hltJ : ¬ (l1.length : Int) ≤ k := by omega
    simp only [↓vsd, vsn, gW, qd, qv, ev, pick, argE, zipE, ne_eq, eq_self, forall_const, implies_true, if_true, if_false, reduceIte, reduceCtorEq, Nat.reduceEqDiff, Nat.reduceAdd, Nat.reduceLT, ↓us_sl1SameS, r_sl1SameS, g1.facts, g2.facts, g1.at1 [] hlt, g2.at1 [] hlt2, hltI, hltJ]
    exact ⟨by omega, by omega, fun hne => ⟨by first | exact hx | exact dr hx, by simp [ne_at k hne]⟩, fun he2 => ⟨inR_i64 (by omega), UpTo.next hlt ⟨rfl, eq_take heq hlt hlt2 he2, by first | exact hx | exact dr hx⟩⟩⟩
  · obtain rfl : k = l1.length := by omega
    have hltI : ¬ (l1.length : Int) < l1.length := by omega
    simp only [↓vsd, vsn, gW, qd, qv, ev, pick, argE, zipE, ne_eq, eq_self, forall_const, implies_true, if_true, if_false, reduceIte, reduceCtorEq, Nat.reduceEqDiff, Nat.reduceAdd, Nat.reduceLT, ↓us_sl1SameS, r_sl1SameS, g1.facts, hltI]
    exact ⟨hx, by simp [eq_len heq (by omega)]⟩
theorem sSameMethod_ok (nm nm' : List UInt8) (st st' : Int) (v v' : Value) (cs cs' : List (List UInt8)) (hl : cs.length ≤ 1000000000) (w : World) (h : Sq fS 1 w v cs) (h' : Sq fS 1 w v' cs') : Fn 35 [mV nm st v, mV nm' st' v'] w (fun r _ => r = .bool (decide (nm = nm' ∧ st = st' ∧ cs = cs'))) := by
  (refine callsV_of mix Try.func35 c_sSameMethod ?_; simp only [↓vsd, vsn, gW, qd, qv, ev, pick, argE, zipE, ne_eq, eq_self, forall_const, implies_true, if_true, if_false, reduceIte, reduceCtorEq, Nat.reduceEqDiff, Nat.reduceAdd, Nat.reduceLT, ↓us_sSameMethod, r_sSameMethod])
  refine m_al ?_
  rintro b1 w1 hb1 hblk1 hx1 hs1
  have h1 : Blk w1 b1 (fM nm st v) 41 := hblk1
  simp only [↓vsd, vsn, gW, qd, qv, ev, pick, argE, zipE, ne_eq, eq_self, forall_const, implies_true, if_true, if_false, reduceIte, reduceCtorEq, Nat.reduceEqDiff, Nat.reduceAdd, Nat.reduceLT, ↓us_sSameMethod, r_sSameMethod]
  refine m_al ?_
  rintro b2 w2 hb2 hblk2 hx2 hs2
  have h2 : Blk w2 b2 (fM nm' st' v') 41 := hblk2
  have h12 := h1.ext hx2
  have hx12 := hx1.trans hx2
  by_cases e1 : nm = nm'
  · by_cases e2 : st = st'
    · subst e1; subst e2
      simp only [↓vsd, vsn, gW, qd, qv, ev, pick, argE, zipE, ne_eq, eq_self, forall_const, implies_true, if_true, if_false, reduceIte, reduceCtorEq, Nat.reduceEqDiff, Nat.reduceAdd, Nat.reduceLT, ↓us_sSameMethod, r_sSameMethod, h12.facts, h2.facts, fMg]
      refine m_call (sl1SameS_ok v v' cs cs' _ (by first | exact h.ext hx12 | exact h.ext (dr hx12)) (by first | exact h'.ext hx12 | exact h'.ext (dr hx12)) hl) ?_
      rintro _ w3 hx3 rfl
      have hx3 : Ext w2 w3 := by first | exact hx3 | exact ud hx3 | exact ud (ud hx3)
      simp only [↓vsd, vsn, gW, qd, qv, ev, pick, argE, zipE, ne_eq, eq_self, forall_const, implies_true, if_true, if_false, reduceIte, reduceCtorEq, Nat.reduceEqDiff, Nat.reduceAdd, Nat.reduceLT, ↓us_sSameMethod, r_sSameMethod]
      exact hx12.trans hx3
    · simp only [↓vsd, vsn, gW, qd, qv, ev, pick, argE, zipE, ne_eq, eq_self, forall_const, implies_true, if_true, if_false, reduceIte, reduceCtorEq, Nat.reduceEqDiff, Nat.reduceAdd, Nat.reduceLT, ↓us_sSameMethod, r_sSameMethod, h12.facts, h2.facts, fMg, e1, e2]
      exact hx12
  · simp only [↓vsd, vsn, gW, qd, qv, ev, pick, argE, zipE, ne_eq, eq_self, forall_const, implies_true, if_true, if_false, reduceIte, reduceCtorEq, Nat.reduceEqDiff, Nat.reduceAdd, Nat.reduceLT, ↓us_sSameMethod, r_sSameMethod, h12.facts, h2.facts, fMg, e1]
    exact hx12
/-- Are two calls asked of a method and its calls? -/
def SameOk (nm : List UInt8) (st : Int) (cs : List (List UInt8)) (b s p q : List UInt8) : Prop := IsMC nm st cs b s ∧ IsCall p ∧ IsCall q
instance (nm : List UInt8) (st : Int) (cs : List (List UInt8)) (b s p q : List UInt8) : Decidable (SameOk nm st cs b s p q) := by unfold SameOk; infer_instance
def slV (nm : List UInt8) (st : Int) (cs : List (List UInt8)) (b s p q : List UInt8) : Value := if SameOk nm st cs b s p q then .tuple ⟨[.bool (decide (headC st.toNat cs b s p = headC st.toNat cs b s q)), .bool true]⟩ else .tuple ⟨[.bool false, .bool false]⟩
section
variable (nm : List UInt8) (st : Int) (v : Value) (cs : List (List UInt8)) (b s p q : List UInt8) (hnm : nm.length ≤ 1048576) (hs : ∀ c ∈ cs, c.length ≤ 1048576) (hl : cs.length ≤ 1000000000) (hb : b.length ≤ 1048576 ∧ s.length ≤ 1048576)
include hnm hs hl hb
theorem iSameLead_ok (w : World) (h : Sq fS 1 w v cs) : Fn 136 [mV nm st v, kV b s, S p, S q] w (fun r _ => r = slV nm st cs b s p q) := by
  (refine callsV_of mix Try.func136 c_iSameLead ?_; simp only [↓vsd, vsn, gW, qd, qv, ev, pick, argE, zipE, ne_eq, eq_self, forall_const, implies_true, if_true, if_false, reduceIte, reduceCtorEq, Nat.reduceEqDiff, Nat.reduceAdd, Nat.reduceLT, ↓us_iSameLead, r_iSameLead])
  refine m_al ?_
  rintro b1 w1 hb1 hblk1 hx1 hs1
  have h1 : Blk w1 b1 (fM nm st v) 41 := hblk1
  simp only [↓vsd, vsn, gW, qd, qv, ev, pick, argE, zipE, ne_eq, eq_self, forall_const, implies_true, if_true, if_false, reduceIte, reduceCtorEq, Nat.reduceEqDiff, Nat.reduceAdd, Nat.reduceLT, ↓us_iSameLead, r_iSameLead, h1.facts, fMg]
  refine m_al ?_
  rintro b2 w2 hb2 hblk2 hx2 hs2
  have h2 : Blk w2 b2 (fQ b s) 32 := hblk2
  have h12 := h1.ext hx2
  have hx12 := hx1.trans hx2
  simp only [↓vsd, vsn, gW, qd, qv, ev, pick, argE, zipE, ne_eq, eq_self, forall_const, implies_true, if_true, if_false, reduceIte, reduceCtorEq, Nat.reduceEqDiff, Nat.reduceAdd, Nat.reduceLT, ↓us_iSameLead, r_iSameLead, h12.facts, h2.facts, fMg, fQg]
  refine m_call (iGoodCalls_ok nm st v cs b s hnm hs hl hb _ (by first | exact h.ext hx12 | exact h.ext (dr hx12))) ?_
  rintro _ w3 hx3 rfl
  have hx3 : Ext w2 w3 := by first | exact hx3 | exact ud hx3 | exact ud (ud hx3)
  have hx13 := hx12.trans hx3
  have h13 := h12.ext hx3
  have h23 := h2.ext hx3
  by_cases hM : IsMC nm st cs b s
  · obtain ⟨n, rfl⟩ : ∃ n : Nat, st = n := ⟨st.toNat, by have := hM.1.2.1; omega⟩
    have hD := decide_eq_true hM
    simp only [↓vsd, vsn, gW, qd, qv, ev, pick, argE, zipE, ne_eq, eq_self, forall_const, implies_true, if_true, if_false, reduceIte, reduceCtorEq, Nat.reduceEqDiff, Nat.reduceAdd, Nat.reduceLT, ↓us_iSameLead, r_iSameLead, hD, h13.facts, h23.facts, fMg, fQg]
    refine m_call (iisCall_okc p _) ?_
    rintro _ w4 hx4 rfl
    have hx4 : Ext w3 w4 := by first | exact hx4 | exact ud hx4 | exact ud (ud hx4)
    have hx14 := hx13.trans hx4
    have h14 := h13.ext hx4
    have h24 := h23.ext hx4
    by_cases hp : IsCall p
    · have hpD := decide_eq_true hp
      simp only [↓vsd, vsn, gW, qd, qv, ev, pick, argE, zipE, ne_eq, eq_self, forall_const, implies_true, if_true, if_false, reduceIte, reduceCtorEq, Nat.reduceEqDiff, Nat.reduceAdd, Nat.reduceLT, ↓us_iSameLead, r_iSameLead, hpD, h14.facts, h24.facts, fMg, fQg]
      refine m_call (iisCall_okc q _) ?_
      rintro _ w5 hx5 rfl
      have hx5 : Ext w4 w5 := by first | exact hx5 | exact ud hx5 | exact ud (ud hx5)
      have hx15 := hx14.trans hx5
      have h15 := h14.ext hx5
      have h25 := h24.ext hx5
      by_cases hq : IsCall q
      · have hqD := decide_eq_true hq
        have hok : SameOk nm n cs b s p q := ⟨hM, hp, hq⟩
        simp only [↓vsd, vsn, gW, qd, qv, ev, pick, argE, zipE, ne_eq, eq_self, forall_const, implies_true, if_true, if_false, reduceIte, reduceCtorEq, Nat.reduceEqDiff, Nat.reduceAdd, Nat.reduceLT, ↓us_iSameLead, r_iSameLead, hqD, h15.facts, h25.facts, fMg, fQg]
        refine m_call (icallHead_ok nm n v cs b s p hM _ (by first | exact h.ext hx15 | exact h.ext (dr hx15))) ?_
        rintro _ w6 hx6 rfl
        have hx6 : Ext w5 w6 := by first | exact hx6 | exact ud hx6 | exact ud (ud hx6)
        have hx16 := hx15.trans hx6
        simp only [↓vsd, vsn, gW, qd, qv, ev, pick, argE, zipE, ne_eq, eq_self, forall_const, implies_true, if_true, if_false, reduceIte, reduceCtorEq, Nat.reduceEqDiff, Nat.reduceAdd, Nat.reduceLT, ↓us_iSameLead, r_iSameLead]
        refine m_call (icallHead_ok nm n v cs b s q hM _ (by first | exact h.ext hx16 | exact h.ext (dr hx16))) ?_
        rintro _ w7 hx7 rfl
        have hx7 : Ext w6 w7 := by first | exact hx7 | exact ud hx7 | exact ud (ud hx7)
        simp only [↓vsd, vsn, gW, qd, qv, ev, pick, argE, zipE, ne_eq, eq_self, forall_const, implies_true, if_true, if_false, reduceIte, reduceCtorEq, Nat.reduceEqDiff, Nat.reduceAdd, Nat.reduceLT, ↓us_iSameLead, r_iSameLead]
        exact ⟨hx16.trans hx7, by rw [slV, if_pos hok]; rfl⟩
      · have hqD := decide_eq_false hq
        simp only [↓vsd, vsn, gW, qd, qv, ev, pick, argE, zipE, ne_eq, eq_self, forall_const, implies_true, if_true, if_false, reduceIte, reduceCtorEq, Nat.reduceEqDiff, Nat.reduceAdd, Nat.reduceLT, ↓us_iSameLead, r_iSameLead, hqD]
        exact ⟨hx15, by rw [slV, if_neg (fun hh : SameOk nm n cs b s p q => hq hh.2.2)]⟩
    · have hpD := decide_eq_false hp
      simp only [↓vsd, vsn, gW, qd, qv, ev, pick, argE, zipE, ne_eq, eq_self, forall_const, implies_true, if_true, if_false, reduceIte, reduceCtorEq, Nat.reduceEqDiff, Nat.reduceAdd, Nat.reduceLT, ↓us_iSameLead, r_iSameLead, hpD]
      exact ⟨hx14, by rw [slV, if_neg (fun hh : SameOk nm n cs b s p q => hp hh.2.1)]⟩
  · have hD := decide_eq_false hM
    simp only [↓vsd, vsn, gW, qd, qv, ev, pick, argE, zipE, ne_eq, eq_self, forall_const, implies_true, if_true, if_false, reduceIte, reduceCtorEq, Nat.reduceEqDiff, Nat.reduceAdd, Nat.reduceLT, ↓us_iSameLead, r_iSameLead, hD]
    exact ⟨hx13, by rw [slV, if_neg (fun hh : SameOk nm st cs b s p q => hM hh.1)]⟩
theorem sSameLead_ok (w : World) (h : Sq fS 1 w v cs) : Fn 137 [mV nm st v, kV b s, S p, S q] w (fun r _ => r = slV nm st cs b s p q) := by
  (refine callsV_of mix Try.func137 c_sSameLead ?_; simp only [↓vsd, vsn, gW, qd, qv, ev, pick, argE, zipE, ne_eq, eq_self, forall_const, implies_true, if_true, if_false, reduceIte, reduceCtorEq, Nat.reduceEqDiff, Nat.reduceAdd, Nat.reduceLT, ↓us_sSameLead, r_sSameLead])
  refine m_al ?_
  rintro b1 w1 hb1 hblk1 hx1 hs1
  have h1 : Blk w1 b1 (fM nm st v) 41 := hblk1
  simp only [↓vsd, vsn, gW, qd, qv, ev, pick, argE, zipE, ne_eq, eq_self, forall_const, implies_true, if_true, if_false, reduceIte, reduceCtorEq, Nat.reduceEqDiff, Nat.reduceAdd, Nat.reduceLT, ↓us_sSameLead, r_sSameLead, h1.facts, fMg]
  refine m_al ?_
  rintro b2 w2 hb2 hblk2 hx2 hs2
  have h2 : Blk w2 b2 (fQ b s) 32 := hblk2
  have h12 := h1.ext hx2
  have hx12 := hx1.trans hx2
  simp only [↓vsd, vsn, gW, qd, qv, ev, pick, argE, zipE, ne_eq, eq_self, forall_const, implies_true, if_true, if_false, reduceIte, reduceCtorEq, Nat.reduceEqDiff, Nat.reduceAdd, Nat.reduceLT, ↓us_sSameLead, r_sSameLead, h12.facts, h2.facts, fMg, fQg]
  refine m_call (sl8Asked_ok nm st v cs b s p hnm hs hl hb _ (by first | exact h.ext hx12 | exact h.ext (dr hx12))) ?_
  rintro _ w3 hx3 rfl
  have hx3 : Ext w2 w3 := by first | exact hx3 | exact ud hx3 | exact ud (ud hx3)
  have hx13 := hx12.trans hx3
  have h13 := h12.ext hx3
  have h23 := h2.ext hx3
  by_cases hM : IsMC nm st cs b s ∧ IsCall p
  · obtain ⟨n, rfl⟩ : ∃ n : Nat, st = n := ⟨st.toNat, by have := hM.1.1.2.1; omega⟩
    have hD := decide_eq_true hM
    simp only [↓vsd, vsn, gW, qd, qv, ev, pick, argE, zipE, ne_eq, eq_self, forall_const, implies_true, if_true, if_false, reduceIte, reduceCtorEq, Nat.reduceEqDiff, Nat.reduceAdd, Nat.reduceLT, ↓us_sSameLead, r_sSameLead, hD, h13.facts, h23.facts, fMg, fQg]
    refine m_call (sl8Call_okc q _) ?_
    rintro _ w5 hx5 rfl
    have hx5 : Ext w3 w5 := by first | exact hx5 | exact ud hx5 | exact ud (ud hx5)
    have hx15 := hx13.trans hx5
    have h15 := h13.ext hx5
    have h25 := h23.ext hx5
    by_cases hq : IsCall q
    · have hqD := decide_eq_true hq
      have hok : SameOk nm n cs b s p q := ⟨hM.1, hM.2, hq⟩
      simp only [↓vsd, vsn, gW, qd, qv, ev, pick, argE, zipE, ne_eq, eq_self, forall_const, implies_true, if_true, if_false, reduceIte, reduceCtorEq, Nat.reduceEqDiff, Nat.reduceAdd, Nat.reduceLT, ↓us_sSameLead, r_sSameLead, hqD, h15.facts, h25.facts, fMg, fQg]
      refine m_call (sl8Head_ok nm n v cs b s p hM.1 _ (by first | exact h.ext hx15 | exact h.ext (dr hx15))) ?_
      rintro _ w6 hx6 rfl
      have hx6 : Ext w5 w6 := by first | exact hx6 | exact ud hx6 | exact ud (ud hx6)
      have hx16 := hx15.trans hx6
      simp only [↓vsd, vsn, gW, qd, qv, ev, pick, argE, zipE, ne_eq, eq_self, forall_const, implies_true, if_true, if_false, reduceIte, reduceCtorEq, Nat.reduceEqDiff, Nat.reduceAdd, Nat.reduceLT, ↓us_sSameLead, r_sSameLead]
      refine m_call (sl8Head_ok nm n v cs b s q hM.1 _ (by first | exact h.ext hx16 | exact h.ext (dr hx16))) ?_
      rintro _ w7 hx7 rfl
      have hx7 : Ext w6 w7 := by first | exact hx7 | exact ud hx7 | exact ud (ud hx7)
      simp only [↓vsd, vsn, gW, qd, qv, ev, pick, argE, zipE, ne_eq, eq_self, forall_const, implies_true, if_true, if_false, reduceIte, reduceCtorEq, Nat.reduceEqDiff, Nat.reduceAdd, Nat.reduceLT, ↓us_sSameLead, r_sSameLead]
      exact ⟨hx16.trans hx7, by rw [slV, if_pos hok]; rfl⟩
    · have hqD := decide_eq_false hq
      simp only [↓vsd, vsn, gW, qd, qv, ev, pick, argE, zipE, ne_eq, eq_self, forall_const, implies_true, if_true, if_false, reduceIte, reduceCtorEq, Nat.reduceEqDiff, Nat.reduceAdd, Nat.reduceLT, ↓us_sSameLead, r_sSameLead, hqD]
      exact ⟨hx15, by rw [slV, if_neg (fun hh : SameOk nm n cs b s p q => hq hh.2.2)]⟩
  · have hD := decide_eq_false hM
    simp only [↓vsd, vsn, gW, qd, qv, ev, pick, argE, zipE, ne_eq, eq_self, forall_const, implies_true, if_true, if_false, reduceIte, reduceCtorEq, Nat.reduceEqDiff, Nat.reduceAdd, Nat.reduceLT, ↓us_sSameLead, r_sSameLead, hD]
    exact ⟨hx13, by rw [slV, if_neg (fun hh : SameOk nm st cs b s p q => hM ⟨hh.1, hh.2.1⟩)]⟩
end
end Go.Proofs.Ytpnopboffalfnaa
