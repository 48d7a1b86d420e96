/-
  Calls: what a call does to a lead; a law's input of calls.
  Conditions: none.
-/
import Derived.Test.YthopbkemkfjebaaGreatKA11
import Derived.Test.YthopbkemkfjebaaGreatKA25
set_option linter.unusedSimpArgs false
set_option linter.unusedVariables false
set_option linter.defProp false
namespace Go.Proofs.YthopbkemkfjebaaGreat
open Go Go.RowKit
section
variable (P : Program) (k : KT) (e : Env) (w : World)
abbrev b129_1 : X := (.seq (.reg [2] (.c (.q 3 [] (.mv (.t 0))) (.c (.q 4 [] (.bin .eql (.t 3) (.s [112]))) (.c (.q 5 [] (.mv (.t 4))) (.c (.q 6 [(5, false)] (.mv (.t 0))) (.c (.q 7 [(5, false)] (.bin .eql (.t 6) (.s [98]))) (.c (.q 8 [] (.pick (.t 5) (.c (.bool true)) (.t 7))) (.c (.q 9 [] (.mv (.t 8))) (.c (.q 10 [(9, false)] (.mv (.t 0))) (.c (.q 11 [(9, false)] (.bin .eql (.t 10) (.s [115]))) (.c (.q 12 [] (.pick (.t 9) (.c (.bool true)) (.t 11))) (.c (.q 2 [] (.mv (.t 12))) .nil)))))))))))) .ret)
def t129_1 := b129_1
theorem u129_1 : vcK P t129_1 k e w = vcK P b129_1 k e w := rfl
abbrev b129_0 : X := (.seq (.reg [0] (.c (.q 2 [] (.mv (.c (.bool false)))) .nil)) t129_1)
def x_iisCall := b129_0
theorem u129_0 : vcK P x_iisCall k e w = vcK P b129_0 k e w := rfl
def r_iisCall : List XO := [(.mv (.t 2))]
theorem c_iisCall : convF Tryz.prog [56, 58, 59, 60, 61, 62, 72, 73, 77, 97, 98, 109, 110, 111, 112, 115, 128, 136] Tryz.f129 [([0], []), ([2], [])] = some (x_iisCall, r_iisCall) := by kernel_rfl
def us_iisCall :=  (aI @u129_0 @u129_1)
abbrev b125_1 : X := (.seq (.reg [2] (.c (.q 3 [] (.mv (.t 0))) (.c (.q 4 [] (.bin .eql (.t 3) (.s [112]))) (.c (.q 5 [] (.mv (.t 4))) (.c (.q 6 [(5, false)] (.mv (.t 0))) (.c (.q 7 [(5, false)] (.bin .eql (.t 6) (.s [98]))) (.c (.q 8 [] (.pick (.t 5) (.c (.bool true)) (.t 7))) (.c (.q 9 [] (.mv (.t 8))) (.c (.q 10 [(9, false)] (.mv (.t 0))) (.c (.q 11 [(9, false)] (.bin .eql (.t 10) (.s [115]))) (.c (.q 12 [] (.pick (.t 9) (.c (.bool true)) (.t 11))) (.c (.q 2 [] (.mv (.t 12))) .nil)))))))))))) .ret)
def t125_1 := b125_1
theorem u125_1 : vcK P t125_1 k e w = vcK P b125_1 k e w := rfl
abbrev b125_0 : X := (.seq (.reg [0] (.c (.q 2 [] (.mv (.c (.bool false)))) .nil)) t125_1)
def x_sl8Call := b125_0
theorem u125_0 : vcK P x_sl8Call k e w = vcK P b125_0 k e w := rfl
def r_sl8Call : List XO := [(.mv (.t 2))]
theorem c_sl8Call : convF Tryz.prog [56, 58, 59, 60, 61, 62, 72, 73, 77, 97, 98, 109, 110, 111, 112, 115, 128, 136] Tryz.f125 [([0], []), ([2], [])] = some (x_sl8Call, r_sl8Call) := by kernel_rfl
def us_sl8Call :=  (aI @u125_0 @u125_1)
abbrev b101_1 : X := (.seq (.reg [4] (.c (.q 5 [] (.lda 3 (.t 2))) (.c (.e (some 6) [] (.call false 63 [(.t 5)])) (.c (.q 7 [] (.mv (.t 6))) (.c (.q 8 [(7, true)] (.fa 1 (.t 2))) (.c (.q 9 [(7, true)] (.ld (.t 8))) (.c (.q 10 [(7, true)] (.fa 0 (.t 3))) (.c (.q 11 [(7, true)] (.ld (.t 10))) (.c (.e (some 12) [(7, true)] (.call false 138 [(.t 9), (.t 11)])) (.c (.q 13 [] (.pick (.t 7) (.t 12) (.c (.bool false)))) (.c (.q 14 [] (.mv (.t 13))) (.c (.q 15 [(14, true)] (.fa 1 (.t 2))) (.c (.q 16 [(14, true)] (.ld (.t 15))) (.c (.q 17 [(14, true)] (.fa 1 (.t 3))) (.c (.q 18 [(14, true)] (.ld (.t 17))) (.c (.e (some 19) [(14, true)] (.call false 138 [(.t 16), (.t 18)])) (.c (.q 20 [] (.pick (.t 14) (.t 19) (.c (.bool false)))) (.c (.q 4 [] (.mv (.t 20))) .nil)))))))))))))))))) .ret)
def t101_1 := b101_1
theorem u101_1 : vcK P t101_1 k e w = vcK P b101_1 k e w := rfl
abbrev b101_0 : X := (.seq (.reg [2, 3] (.c (.e (some 2) [] (.box 25 (.t 0))) (.c (.e (some 3) [] (.box 27 (.t 1))) (.c (.q 4 [] (.mv (.c (.bool false)))) .nil)))) t101_1)
def x_iGoodCalls := b101_0
theorem u101_0 : vcK P x_iGoodCalls k e w = vcK P b101_0 k e w := rfl
def r_iGoodCalls : List XO := [(.mv (.t 4))]
theorem c_iGoodCalls : convF Tryz.prog [56, 58, 59, 60, 61, 62, 72, 73, 77, 97, 98, 109, 110, 111, 112, 115, 128, 136] Tryz.f101 [([2, 3], []), ([4], [])] = some (x_iGoodCalls, r_iGoodCalls) := by kernel_rfl
def us_iGoodCalls :=  (aI @u101_0 @u101_1)
abbrev b82_1 : X := (.seq (.reg [4] (.c (.q 5 [] (.lda 3 (.t 2))) (.c (.e (some 6) [] (.call false 57 [(.t 5)])) (.c (.q 7 [] (.mv (.t 6))) (.c (.q 8 [(7, true)] (.fa 1 (.t 2))) (.c (.q 9 [(7, true)] (.ld (.t 8))) (.c (.q 10 [(7, true)] (.fa 0 (.t 3))) (.c (.q 11 [(7, true)] (.ld (.t 10))) (.c (.e (some 12) [(7, true)] (.call false 113 [(.t 9), (.t 11)])) (.c (.q 13 [] (.pick (.t 7) (.t 12) (.c (.bool false)))) (.c (.q 14 [] (.mv (.t 13))) (.c (.q 15 [(14, true)] (.fa 1 (.t 2))) (.c (.q 16 [(14, true)] (.ld (.t 15))) (.c (.q 17 [(14, true)] (.fa 1 (.t 3))) (.c (.q 18 [(14, true)] (.ld (.t 17))) (.c (.e (some 19) [(14, true)] (.call false 113 [(.t 16), (.t 18)])) (.c (.q 20 [] (.pick (.t 14) (.t 19) (.c (.bool false)))) (.c (.q 4 [] (.mv (.t 20))) .nil)))))))))))))))))) .ret)
def t82_1 := b82_1
theorem u82_1 : vcK P t82_1 k e w = vcK P b82_1 k e w := rfl
abbrev b82_0 : X := (.seq (.reg [2, 3] (.c (.e (some 2) [] (.box 25 (.t 0))) (.c (.e (some 3) [] (.box 27 (.t 1))) (.c (.q 4 [] (.mv (.c (.bool false)))) .nil)))) t82_1)
def x_sl8Good := b82_0
theorem u82_0 : vcK P x_sl8Good k e w = vcK P b82_0 k e w := rfl
def r_sl8Good : List XO := [(.mv (.t 4))]
theorem c_sl8Good : convF Tryz.prog [56, 58, 59, 60, 61, 62, 72, 73, 77, 97, 98, 109, 110, 111, 112, 115, 128, 136] Tryz.f82 [([2, 3], []), ([4], [])] = some (x_sl8Good, r_sl8Good) := by kernel_rfl
def us_sl8Good :=  (aI @u82_0 @u82_1)
abbrev b141_1 : X := (.cond (.t 12) (.seq (.reg [6] (.c (.q 14 [] (.fa 1 (.t 4))) (.c (.q 15 [] (.ld (.t 14))) (.c (.q 6 [] (.mv (.t 15))) .nil)))) .ret) .skip)
def t141_1 := b141_1
theorem u141_1 : vcK P t141_1 k e w = vcK P b141_1 k e w := rfl
abbrev b141_2 : X := (.cond (.t 8) (.seq (.reg [6] (.c (.q 10 [] (.fa 0 (.t 4))) (.c (.q 11 [] (.ld (.t 10))) (.c (.q 6 [] (.mv (.t 11))) .nil)))) .ret) (.seq (.reg [3, 4, 12] (.c (.q 13 [] (.bin .eql (.t 7) (.s [115]))) (.c (.q 12 [] (.mv (.t 13))) .nil))) t141_1))
def t141_2 := b141_2
theorem u141_2 : vcK P t141_2 k e w = vcK P b141_2 k e w := rfl
abbrev b141_3 : X := (.blk 0 (.seq (.reg [3, 4, 7, 8] (.c (.q 9 [] (.bin .eql (.t 7) (.s [98]))) (.c (.q 8 [] (.mv (.t 9))) .nil))) t141_2))
def t141_3 := b141_3
theorem u141_3 : vcK P t141_3 k e w = vcK P b141_3 k e w := rfl
abbrev b141_4 : X := (.seq (.reg [6] (.c (.q 16 [] (.fa 2 (.t 3))) (.c (.q 17 [] (.ld (.t 16))) (.c (.q 18 [] (.fa 2 (.t 3))) (.c (.q 19 [] (.ld (.t 18))) (.c (.q 20 [] (.lens (.t 19))) (.c (.q 21 [] (.bin .sub (.t 20) (.c (.int .i64 1)))) (.c (.q 22 [] (.ia 1 (.t 17) (.t 21))) (.c (.q 23 [] (.ld (.t 22))) (.c (.q 6 [] (.mv (.t 23))) .nil)))))))))) .ret)
def t141_4 := b141_4
theorem u141_4 : vcK P t141_4 k e w = vcK P b141_4 k e w := rfl
abbrev b141_5 : X := (.seq (.seq (.reg [3, 4, 7] (.c (.q 7 [] (.mv (.t 2))) .nil)) t141_3) t141_4)
def t141_5 := b141_5
theorem u141_5 : vcK P t141_5 k e w = vcK P b141_5 k e w := rfl
abbrev b141_0 : X := (.seq (.reg [2, 3, 4] (.c (.e (some 3) [] (.box 25 (.t 0))) (.c (.e (some 4) [] (.box 27 (.t 1))) (.c (.q 6 [] (.mv (.s []))) .nil)))) t141_5)
def x_sl8Change := b141_0
theorem u141_0 : vcK P x_sl8Change k e w = vcK P b141_0 k e w := rfl
def r_sl8Change : List XO := [(.mv (.t 6))]
theorem c_sl8Change : convF Tryz.prog [56, 58, 59, 60, 61, 62, 72, 73, 77, 97, 98, 109, 110, 111, 112, 115, 128, 136] Tryz.f141 [([2, 3, 4], []), ([3, 4, 7], []), ([3, 4, 7, 8], []), ([6], []), ([3, 4, 12], []), ([6], []), ([6], [])] = some (x_sl8Change, r_sl8Change) := by kernel_rfl
def us_sl8Change :=  (aI (aI @u141_0 (aI @u141_1 @u141_2)) (aI @u141_3 (aI @u141_4 @u141_5)))
abbrev b108_1 : X := (.seq (.reg [6] (.c (.q 25 [] (.mv (.t 9))) (.c (.q 26 [] (.lda 3 (.t 3))) (.c (.q 27 [] (.lda 2 (.t 4))) (.c (.q 28 [] (.mv (.t 2))) (.c (.e (some 29) [] (.call false 141 [(.t 26), (.t 27), (.t 28)])) (.c (.e (some 30) [] (.call false 140 [(.t 25), (.t 29)])) (.c (.q 6 [] (.mv (.t 30))) .nil)))))))) .ret)
def t108_1 := b108_1
theorem u108_1 : vcK P t108_1 k e w = vcK P b108_1 k e w := rfl
abbrev b108_2 : X := (.seq (.drw [2, 3, 4, 9] (.c (.q 15 [] (.fa 2 (.t 3))) (.c (.q 16 [] (.ld (.t 15))) (.c (.q 17 [] (.mv (.t 7))) (.c (.q 18 [] (.ssl 1 (.t 16) none (some (.t 17)))) (.c (.q 19 [] (.fa 1 (.t 3))) (.c (.q 20 [] (.ld (.t 19))) (.c (.e (some 21) [] (.call false 70 [(.t 20)])) (.c (.e (some 22) [] (.call false 122 [(.t 18), (.t 21)])) (.c (.q 14 [] (.mv (.t 22))) (.c (.q 23 [] (.ext 0 (.t 14))) (.c (.q 24 [] (.ext 1 (.t 14))) (.c (.q 8 [] (.mv (.t 23))) (.c (.q 9 [] (.mv (.t 24))) .nil)))))))))))))) t108_1)
def t108_2 := b108_2
theorem u108_2 : vcK P t108_2 k e w = vcK P b108_2 k e w := rfl
abbrev b108_3 : X := (.seq (.reg [2, 3, 4, 7] (.c (.q 10 [] (.fa 2 (.t 3))) (.c (.q 11 [] (.ld (.t 10))) (.c (.q 12 [] (.lens (.t 11))) (.c (.q 13 [] (.bin .sub (.t 12) (.c (.int .i64 1)))) (.c (.q 7 [] (.mv (.t 13))) .nil)))))) t108_2)
def t108_3 := b108_3
theorem u108_3 : vcK P t108_3 k e w = vcK P b108_3 k e w := rfl
abbrev b108_0 : X := (.seq (.reg [2, 3, 4] (.c (.e (some 3) [] (.box 25 (.t 0))) (.c (.e (some 4) [] (.box 27 (.t 1))) (.c (.q 6 [] (.mv (.s []))) .nil)))) t108_3)
def x_sl8Head := b108_0
theorem u108_0 : vcK P x_sl8Head k e w = vcK P b108_0 k e w := rfl
def r_sl8Head : List XO := [(.mv (.t 6))]
theorem c_sl8Head : convF Tryz.prog [56, 58, 59, 60, 61, 62, 72, 73, 77, 97, 98, 109, 110, 111, 112, 115, 128, 136] Tryz.f108 [([2, 3, 4], []), ([2, 3, 4, 7], []), ([2, 3, 4, 9], []), ([6], [])] = some (x_sl8Head, r_sl8Head) := by kernel_rfl
def us_sl8Head :=  (aI (aI @u108_0 @u108_1) (aI @u108_2 @u108_3))
end
/-- The cells of calls: bob, single. -/
def fQ (b s : List UInt8) : List Value := [S b, S s]
abbrev kV (b s : List UInt8) : Value := .agg ⟨fQ b s⟩
theorem fQg (b s : List UInt8) : (∀ v, (fQ b s).getD 0 v = S b) ∧ (∀ v, (fQ b s).getD 1 v = S s) ∧ (fQ b s).length = 2 := ⟨fun _ => rfl, fun _ => rfl, rfl⟩
theorem fQ_one (b s : List UInt8) : ∀ u ∈ fQ b s, u.oneCell' = true := fun u h => by simp only [fQ, List.mem_cons, List.not_mem_nil, or_false] at h; rcases h with rfl | rfl <;> rfl
def IsCall (l : List UInt8) : Prop := l = [112] ∨ l = [98] ∨ l = [115]
instance (l : List UInt8) : Decidable (IsCall l) := by unfold IsCall; infer_instance
theorem iisCall_okc (l : List UInt8) (w : World) : Fn 129 [S l] w (fun r _ => r = .bool (decide (IsCall l))) := by
  (refine callsV_of mix Tryz.func129 c_iisCall ?_; simp only [↓vsd, vsn, gW, qd, qv, ev, pick, argE, zipE, ne_eq, eq_self, forall_const, implies_true, if_true, if_false, reduceIte, reduceCtorEq, Nat.reduceEqDiff, Nat.reduceAdd, Nat.reduceLT, ↓us_iisCall, r_iisCall])
  refine ⟨Ext.refl _, ?_⟩
  simp only [IsCall, ← Bool.decide_or, or_assoc]
theorem sl8Call_okc (l : List UInt8) (w : World) : Fn 125 [S l] w (fun r _ => r = .bool (decide (IsCall l))) := by
  (refine callsV_of mix Tryz.func125 c_sl8Call ?_; simp only [↓vsd, vsn, gW, qd, qv, ev, pick, argE, zipE, ne_eq, eq_self, forall_const, implies_true, if_true, if_false, reduceIte, reduceCtorEq, Nat.reduceEqDiff, Nat.reduceAdd, Nat.reduceLT, ↓us_sl8Call, r_sl8Call])
  refine ⟨Ext.refl _, ?_⟩
  simp only [IsCall, ← Bool.decide_or, or_assoc]
/-- A method with calls. -/
def IsMC (nm : List UInt8) (st : Int) (cs : List (List UInt8)) (b s : List UInt8) : Prop := IsMethod nm st cs ∧ IsChange st b ∧ IsChange st s
instance (nm : List UInt8) (st : Int) (cs : List (List UInt8)) (b s : List UInt8) : Decidable (IsMC nm st cs b s) := by unfold IsMC; infer_instance
theorem iGoodCalls_ok (nm : List UInt8) (st : Int) (v : Value) (cs : List (List UInt8)) (b s : List UInt8) (hnm : nm.length ≤ 1048576) (hs : ∀ c ∈ cs, c.length ≤ 1048576) (hl : cs.length ≤ 1000000000) (hb : b.length ≤ 1048576 ∧ s.length ≤ 1048576) (w : World) (h : Sq fS 1 w v cs) : Fn 101 [mV nm st v, kV b s] w (fun r _ => r = .bool (decide (IsMC nm st cs b s))) := by
  (refine callsV_of mix Tryz.func101 c_iGoodCalls ?_; simp only [↓vsd, vsn, gW, qd, qv, ev, pick, argE, zipE, ne_eq, eq_self, forall_const, implies_true, if_true, if_false, reduceIte, reduceCtorEq, Nat.reduceEqDiff, Nat.reduceAdd, Nat.reduceLT, ↓us_iGoodCalls, r_iGoodCalls])
  refine m_al ?_
  rintro b1 w1 hb1 hblk1 hx1 hs1
  have h1 : Blk w1 b1 (fM nm st v) 25 := hblk1
  simp only [↓vsd, vsn, gW, qd, qv, ev, pick, argE, zipE, ne_eq, eq_self, forall_const, implies_true, if_true, if_false, reduceIte, reduceCtorEq, Nat.reduceEqDiff, Nat.reduceAdd, Nat.reduceLT, ↓us_iGoodCalls, r_iGoodCalls, h1.facts, fMg]
  refine m_al ?_
  rintro b2 w2 hb2 hblk2 hx2 hs2
  have h2 : Blk w2 b2 (fQ b s) 27 := hblk2
  have h12 := h1.ext hx2
  have hx12 := hx1.trans hx2
  simp only [↓vsd, vsn, gW, qd, qv, ev, pick, argE, zipE, ne_eq, eq_self, forall_const, implies_true, if_true, if_false, reduceIte, reduceCtorEq, Nat.reduceEqDiff, Nat.reduceAdd, Nat.reduceLT, ↓us_iGoodCalls, r_iGoodCalls, h12.facts, h2.facts, fMg, fQg]
  refine m_call (iGoodMethod_ok nm st v cs hnm hs hl _ (h.ext hx12)) ?_
  rintro _ w3 hx3 rfl
  have h13 := h12.ext hx3
  have h23 := h2.ext hx3
  simp only [↓vsd, vsn, gW, qd, qv, ev, pick, argE, zipE, ne_eq, eq_self, forall_const, implies_true, if_true, if_false, reduceIte, reduceCtorEq, Nat.reduceEqDiff, Nat.reduceAdd, Nat.reduceLT, ↓us_iGoodCalls, r_iGoodCalls, h13.facts, h23.facts, fMg, fQg]
  refine ⟨fun hm => m_call (iGoodChange_ok st b hb.1 _) ?_, fun hm => ?_⟩
  · rintro _ w4 hx4 rfl
    have h14 := h13.ext hx4
    have h24 := h23.ext hx4
    simp only [↓vsd, vsn, gW, qd, qv, ev, pick, argE, zipE, ne_eq, eq_self, forall_const, implies_true, if_true, if_false, reduceIte, reduceCtorEq, Nat.reduceEqDiff, Nat.reduceAdd, Nat.reduceLT, ↓us_iGoodCalls, r_iGoodCalls, h14.facts, h24.facts, fMg, fQg]
    refine ⟨fun hcb => m_call (iGoodChange_ok st s hb.2 _) ?_, fun hcb => ⟨(hx12.trans hx3).trans hx4, by rw [decide_eq_false fun hh : IsMC nm st cs b s => hcb ⟨hh.1, hh.2.1⟩]⟩⟩
    rintro _ w5 hx5 rfl
    simp only [↓vsd, vsn, gW, qd, qv, ev, pick, argE, zipE, ne_eq, eq_self, forall_const, implies_true, if_true, if_false, reduceIte, reduceCtorEq, Nat.reduceEqDiff, Nat.reduceAdd, Nat.reduceLT, ↓us_iGoodCalls, r_iGoodCalls]
    exact ⟨((hx12.trans hx3).trans hx4).trans hx5, by simp [IsMC, hm, hcb]⟩
  · exact ⟨hx12.trans hx3, by simp [IsMC, hm]⟩
theorem sl8Good_ok (nm : List UInt8) (st : Int) (v : Value) (cs : List (List UInt8)) (b s : List UInt8) (hnm : nm.length ≤ 1048576) (hs : ∀ c ∈ cs, c.length ≤ 1048576) (hl : cs.length ≤ 1000000000) (hb : b.length ≤ 1048576 ∧ s.length ≤ 1048576) (w : World) (h : Sq fS 1 w v cs) : Fn 82 [mV nm st v, kV b s] w (fun r _ => r = .bool (decide (IsMC nm st cs b s))) := by
  (refine callsV_of mix Tryz.func82 c_sl8Good ?_; simp only [↓vsd, vsn, gW, qd, qv, ev, pick, argE, zipE, ne_eq, eq_self, forall_const, implies_true, if_true, if_false, reduceIte, reduceCtorEq, Nat.reduceEqDiff, Nat.reduceAdd, Nat.reduceLT, ↓us_sl8Good, r_sl8Good])
  refine m_al ?_
  rintro b1 w1 hb1 hblk1 hx1 hs1
  have h1 : Blk w1 b1 (fM nm st v) 25 := hblk1
  simp only [↓vsd, vsn, gW, qd, qv, ev, pick, argE, zipE, ne_eq, eq_self, forall_const, implies_true, if_true, if_false, reduceIte, reduceCtorEq, Nat.reduceEqDiff, Nat.reduceAdd, Nat.reduceLT, ↓us_sl8Good, r_sl8Good, h1.facts, fMg]
  refine m_al ?_
  rintro b2 w2 hb2 hblk2 hx2 hs2
  have h2 : Blk w2 b2 (fQ b s) 27 := hblk2
  have h12 := h1.ext hx2
  have hx12 := hx1.trans hx2
  simp only [↓vsd, vsn, gW, qd, qv, ev, pick, argE, zipE, ne_eq, eq_self, forall_const, implies_true, if_true, if_false, reduceIte, reduceCtorEq, Nat.reduceEqDiff, Nat.reduceAdd, Nat.reduceLT, ↓us_sl8Good, r_sl8Good, h12.facts, h2.facts, fMg, fQg]
  refine m_call (sl4Good_ok nm st v cs hnm hs hl _ (h.ext hx12)) ?_
  rintro _ w3 hx3 rfl
  have h13 := h12.ext hx3
  have h23 := h2.ext hx3
  simp only [↓vsd, vsn, gW, qd, qv, ev, pick, argE, zipE, ne_eq, eq_self, forall_const, implies_true, if_true, if_false, reduceIte, reduceCtorEq, Nat.reduceEqDiff, Nat.reduceAdd, Nat.reduceLT, ↓us_sl8Good, r_sl8Good, h13.facts, h23.facts, fMg, fQg]
  refine ⟨fun hm => m_call (sl2Change_ok st b hb.1 _) ?_, fun hm => ?_⟩
  · rintro _ w4 hx4 rfl
    have h14 := h13.ext hx4
    have h24 := h23.ext hx4
    simp only [↓vsd, vsn, gW, qd, qv, ev, pick, argE, zipE, ne_eq, eq_self, forall_const, implies_true, if_true, if_false, reduceIte, reduceCtorEq, Nat.reduceEqDiff, Nat.reduceAdd, Nat.reduceLT, ↓us_sl8Good, r_sl8Good, h14.facts, h24.facts, fMg, fQg]
    refine ⟨fun hcb => m_call (sl2Change_ok st s hb.2 _) ?_, fun hcb => ⟨(hx12.trans hx3).trans hx4, by rw [decide_eq_false fun hh : IsMC nm st cs b s => hcb ⟨hh.1, hh.2.1⟩]⟩⟩
    rintro _ w5 hx5 rfl
    simp only [↓vsd, vsn, gW, qd, qv, ev, pick, argE, zipE, ne_eq, eq_self, forall_const, implies_true, if_true, if_false, reduceIte, reduceCtorEq, Nat.reduceEqDiff, Nat.reduceAdd, Nat.reduceLT, ↓us_sl8Good, r_sl8Good]
    exact ⟨((hx12.trans hx3).trans hx4).trans hx5, by simp [IsMC, hm, hcb]⟩
  · exact ⟨hx12.trans hx3, by simp [IsMC, hm]⟩
/-- The last change of a lead with a call. -/
def chgOf (cs : List (List UInt8)) (b s call : List UInt8) : List UInt8 := if call = [98] then b else if call = [115] then s else cs.getD (cs.length - 1) []
def calledCs (cs : List (List UInt8)) (b s call : List UInt8) : List (List UInt8) := cs.take (cs.length - 1) ++ [chgOf cs b s call]
/-- The lead head of a lead with a call. -/
def headC (st : Nat) (cs : List (List UInt8)) (b s call : List UInt8) : List UInt8 := underL (roundsL st) (calledCs cs b s call)
theorem headC_eq (st : Nat) (cs : List (List UInt8)) (b s call : List UInt8) : headC st cs b s call = applyL (underL (roundsL st) (cs.take (cs.length - 1))) (chgOf cs b s call) := by
  rw [headC, calledCs, underL, underL, List.foldl_append]; rfl
theorem calledCs_len (cs : List (List UInt8)) (b s call : List UInt8) (h : 1 ≤ cs.length) : (calledCs cs b s call).length = cs.length := by
  simp [calledCs]; omega
theorem IsMC.chg {nm : List UInt8} {st : Int} {cs : List (List UInt8)} {b s : List UInt8} (h : IsMC nm st cs b s) (call : List UInt8) : IsChange st (chgOf cs b s call) := by
  unfold chgOf
  split
  · exact h.2.1
  · split
    · exact h.2.2
    · exact h.1.2.2.2 _ (getD_mem [] (by have := h.1.2.2.1; omega))
theorem IsMC.called {nm : List UInt8} {st : Int} {cs : List (List UInt8)} {b s : List UInt8} (h : IsMC nm st cs b s) (call : List UInt8) : IsMethod nm st (calledCs cs b s call) := by
  refine ⟨h.1.1, h.1.2.1, by rw [calledCs_len _ _ _ _ h.1.2.2.1.1]; exact h.1.2.2.1, fun c hc => ?_⟩
  rcases List.mem_append.1 hc with hc | hc
  · exact h.1.2.2.2 c (List.mem_of_mem_take hc)
  · rw [List.mem_singleton.1 hc]; exact h.chg call
theorem headC_row {nm : List UInt8} {st : Nat} {cs : List (List UInt8)} {b s : List UInt8} (h : IsMC nm st cs b s) (call : List UInt8) : IsRow (headC st cs b s call) ∧ (headC st cs b s call).length = st := by
  have h8 := h.1.2.1
  exact ⟨underL_row _ (roundsL_row st (by omega)), by rw [headC, underL_len, roundsL_len]⟩
theorem IsChange.small {n : Int} {c : List UInt8} (h : IsChange n c) : c.length ≤ 8 := by have := h.len; have := h.1; omega
theorem sl8Change_ok (nm : List UInt8) (st : Int) (v : Value) (cs : List (List UInt8)) (b s call : List UInt8) (hl : 1 ≤ cs.length ∧ cs.length ≤ 40) (w : World) (h : Sq fS 1 w v cs) : Fn 141 [mV nm st v, kV b s, S call] w (fun r _ => r = S (chgOf cs b s call)) := by
  (refine callsV_of mix Tryz.func141 c_sl8Change ?_; simp only [↓vsd, vsn, gW, qd, qv, ev, pick, argE, zipE, ne_eq, eq_self, forall_const, implies_true, if_true, if_false, reduceIte, reduceCtorEq, Nat.reduceEqDiff, Nat.reduceAdd, Nat.reduceLT, ↓us_sl8Change, r_sl8Change])
  refine m_al ?_
  rintro b1 w1 hb1 hblk1 hx1 hs1
  have h1 : Blk w1 b1 (fM nm st v) 25 := hblk1
  simp only [↓vsd, vsn, gW, qd, qv, ev, pick, argE, zipE, ne_eq, eq_self, forall_const, implies_true, if_true, if_false, reduceIte, reduceCtorEq, Nat.reduceEqDiff, Nat.reduceAdd, Nat.reduceLT, ↓us_sl8Change, r_sl8Change, h1.facts, fMg]
  refine m_al ?_
  rintro b2 w2 hb2 hblk2 hx2 hs2
  have h2 : Blk w2 b2 (fQ b s) 27 := hblk2
  have h12 := h1.ext hx2
  have hx12 := hx1.trans hx2
  have hq := h.ext hx12
  have hI : ((cs.length : Nat) : Int) - 1 = ((cs.length - 1 : Nat) : Int) := by omega
  have hlt : cs.length - 1 < cs.length := by omega
  simp only [↓vsd, vsn, gW, qd, qv, ev, pick, argE, zipE, ne_eq, eq_self, forall_const, implies_true, if_true, if_false, reduceIte, reduceCtorEq, Nat.reduceEqDiff, Nat.reduceAdd, Nat.reduceLT, ↓us_sl8Change, r_sl8Change, h12.facts, h2.facts, fMg, fQg, hq.facts, hI, hq.at1 [] hlt]
  refine ⟨fun h1 => ⟨hx12, by rw [chgOf, if_pos h1]⟩, fun h1 => ⟨fun h2 => ⟨hx12, by rw [chgOf, if_neg h1, if_pos h2]⟩, fun h2 => ⟨inR_i64 (by omega), by omega, hx12, by rw [chgOf, if_neg h1, if_neg h2]⟩⟩⟩
theorem sl8Head_ok (nm : List UInt8) (st : Nat) (v : Value) (cs : List (List UInt8)) (b s call : List UInt8) (hm : IsMC nm st cs b s) (w : World) (h : Sq fS 1 w v cs) : Fn 108 [mV nm st v, kV b s, S call] w (fun r _ => r = S (headC st cs b s call)) := by
  (refine callsV_of mix Tryz.func108 c_sl8Head ?_; simp only [↓vsd, vsn, gW, qd, qv, ev, pick, argE, zipE, ne_eq, eq_self, forall_const, implies_true, if_true, if_false, reduceIte, reduceCtorEq, Nat.reduceEqDiff, Nat.reduceAdd, Nat.reduceLT, ↓us_sl8Head, r_sl8Head])
  refine m_al ?_
  rintro b1 w1 hb1 hblk1 hx1 hs1
  have h1 : Blk w1 b1 (fM nm st v) 25 := hblk1
  simp only [↓vsd, vsn, gW, qd, qv, ev, pick, argE, zipE, ne_eq, eq_self, forall_const, implies_true, if_true, if_false, reduceIte, reduceCtorEq, Nat.reduceEqDiff, Nat.reduceAdd, Nat.reduceLT, ↓us_sl8Head, r_sl8Head, h1.facts, fMg]
  refine m_al ?_
  rintro b2 w2 hb2 hblk2 hx2 hs2
  have h2 : Blk w2 b2 (fQ b s) 27 := hblk2
  have h12 := h1.ext hx2
  have hx12 := hx1.trans hx2
  have hq := h.ext hx12
  have hc := hm.1.2.2.1
  have h8 := hm.1.2.1
  have hI : ((cs.length : Nat) : Int) - 1 = ((cs.length - 1 : Nat) : Int) := by omega
  obtain ⟨hd, hqh⟩ := hq.headS .i64 (cs.length - 1) (by omega)
  simp only [↓vsd, vsn, gW, qd, qv, ev, pick, argE, zipE, ne_eq, eq_self, forall_const, implies_true, if_true, if_false, reduceIte, reduceCtorEq, Nat.reduceEqDiff, Nat.reduceAdd, Nat.reduceLT, ↓us_sl8Head, r_sl8Head, h12.facts, h2.facts, fMg, fQg, hq.facts, hI, hd]
  refine ⟨inR_i64 (by omega), m_call (sl1Rounds_ok st (by omega) _) ?_⟩
  rintro _ w3 hx3 rfl
  have hx3 := ud hx3
  have h13 := h12.ext hx3
  have h23 := h2.ext hx3
  simp only [↓vsd, vsn, gW, qd, qv, ev, pick, argE, zipE, ne_eq, eq_self, forall_const, implies_true, if_true, if_false, reduceIte, reduceCtorEq, Nat.reduceEqDiff, Nat.reduceAdd, Nat.reduceLT, ↓us_sl8Head, r_sl8Head, h13.facts, h23.facts, fMg, fQg]
  refine m_call (sl4Lead_ok (roundsL st) _ (cs.take (cs.length - 1)) st (roundsL_row st (by omega)) (fun c hc => hm.1.2.2.2 c (List.mem_of_mem_take hc)) (by rw [List.length_take]; omega) _ (hqh.ext hx3)) ?_
  rintro _ w4 hx4 ⟨x, rfl, ho⟩
  have h14 := h13.ext hx4
  have h24 := h23.ext hx4
  have hx14 := (hx12.trans hx3).trans hx4
  simp only [↓vsd, vsn, gW, qd, qv, ev, pick, argE, zipE, ne_eq, eq_self, forall_const, implies_true, if_true, if_false, reduceIte, reduceCtorEq, Nat.reduceEqDiff, Nat.reduceAdd, Nat.reduceLT, ↓us_sl8Head, r_sl8Head, h14.facts, h24.facts, fMg, fQg]
  refine m_call (sl8Change_ok nm st v cs b s call hc _ (h.ext hx14)) ?_
  rintro _ w5 hx5 rfl
  simp only [↓vsd, vsn, gW, qd, qv, ev, pick, argE, zipE, ne_eq, eq_self, forall_const, implies_true, if_true, if_false, reduceIte, reduceCtorEq, Nat.reduceEqDiff, Nat.reduceAdd, Nat.reduceLT, ↓us_sl8Head, r_sl8Head]
  refine m_call (sl2Apply_ok _ _ (underL_row _ (roundsL_row st (by omega))) (by have := (hm.chg call).small; omega) _) ?_
  rintro _ w6 hx6 rfl
  simp only [↓vsd, vsn, gW, qd, qv, ev, pick, argE, zipE, ne_eq, eq_self, forall_const, implies_true, if_true, if_false, reduceIte, reduceCtorEq, Nat.reduceEqDiff, Nat.reduceAdd, Nat.reduceLT, ↓us_sl8Head, r_sl8Head]
  exact ⟨(hx14.trans hx5).trans hx6, by rw [headC_eq]⟩
end Go.Proofs.YthopbkemkfjebaaGreat
