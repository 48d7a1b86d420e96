/-
  Calls: what a call does to a lead; a law's input of calls.
  Conditions: none.
-/
import Derived.Test.YtfklonhjgkahdaaKA11
import Derived.Test.YtfklonhjgkahdaaKA25
set_option linter.unusedSimpArgs false
set_option linter.unusedVariables false
set_option linter.defProp false
namespace Go.Proofs.Ytfklonhjgkahdaa
open Go Go.RowKit
section
variable (P : Program) (k : KT) (e : Env) (w : World)
abbrev b88_1 : X := (.seq (.reg [4] (.c (.q 5 [] (.lda 3 (.t 2))) (.c (.e (some 6) [] (.call false 102 [(.t 5)])) (.c (.q 7 [] (.mv (.t 6))) (.c (.q 8 [(7, true)] (.fa 1 (.t 2))) (.c (.q 9 [(7, true)] (.ld (.t 8))) (.c (.q 10 [(7, true)] (.fa 0 (.t 3))) (.c (.q 11 [(7, true)] (.ld (.t 10))) (.c (.e (some 12) [(7, true)] (.call false 17 [(.t 9), (.t 11)])) (.c (.q 13 [] (.pick (.t 7) (.t 12) (.c (.bool false)))) (.c (.q 14 [] (.mv (.t 13))) (.c (.q 15 [(14, true)] (.fa 1 (.t 2))) (.c (.q 16 [(14, true)] (.ld (.t 15))) (.c (.q 17 [(14, true)] (.fa 1 (.t 3))) (.c (.q 18 [(14, true)] (.ld (.t 17))) (.c (.e (some 19) [(14, true)] (.call false 17 [(.t 16), (.t 18)])) (.c (.q 20 [] (.pick (.t 14) (.t 19) (.c (.bool false)))) (.c (.q 4 [] (.mv (.t 20))) .nil)))))))))))))))))) .ret)
def t88_1 := b88_1
theorem u88_1 : vcK P t88_1 k e w = vcK P b88_1 k e w := rfl
abbrev b88_0 : X := (.seq (.reg [2, 3] (.c (.e (some 2) [] (.box 44 (.t 0))) (.c (.e (some 3) [] (.box 46 (.t 1))) (.c (.q 4 [] (.mv (.c (.bool false)))) .nil)))) t88_1)
def x_iGoodCalls := b88_0
theorem u88_0 : vcK P x_iGoodCalls k e w = vcK P b88_0 k e w := rfl
def r_iGoodCalls : List XO := [(.mv (.t 4))]
theorem c_iGoodCalls : convF Try.prog [38, 39, 41, 42, 49, 54, 55, 57, 58, 59, 73, 79, 81, 84, 87, 139] Try.f88 [([2, 3], []), ([4], [])] = some (x_iGoodCalls, r_iGoodCalls) := by kernel_rfl
def us_iGoodCalls :=  (aI @u88_0 @u88_1)
abbrev b92_1 : X := (.seq (.reg [4] (.c (.q 5 [] (.lda 3 (.t 2))) (.c (.e (some 6) [] (.call false 86 [(.t 5)])) (.c (.q 7 [] (.mv (.t 6))) (.c (.q 8 [(7, true)] (.fa 1 (.t 2))) (.c (.q 9 [(7, true)] (.ld (.t 8))) (.c (.q 10 [(7, true)] (.fa 0 (.t 3))) (.c (.q 11 [(7, true)] (.ld (.t 10))) (.c (.e (some 12) [(7, true)] (.call false 76 [(.t 9), (.t 11)])) (.c (.q 13 [] (.pick (.t 7) (.t 12) (.c (.bool false)))) (.c (.q 14 [] (.mv (.t 13))) (.c (.q 15 [(14, true)] (.fa 1 (.t 2))) (.c (.q 16 [(14, true)] (.ld (.t 15))) (.c (.q 17 [(14, true)] (.fa 1 (.t 3))) (.c (.q 18 [(14, true)] (.ld (.t 17))) (.c (.e (some 19) [(14, true)] (.call false 76 [(.t 16), (.t 18)])) (.c (.q 20 [] (.pick (.t 14) (.t 19) (.c (.bool false)))) (.c (.q 4 [] (.mv (.t 20))) .nil)))))))))))))))))) .ret)
def t92_1 := b92_1
theorem u92_1 : vcK P t92_1 k e w = vcK P b92_1 k e w := rfl
abbrev b92_0 : X := (.seq (.reg [2, 3] (.c (.e (some 2) [] (.box 44 (.t 0))) (.c (.e (some 3) [] (.box 46 (.t 1))) (.c (.q 4 [] (.mv (.c (.bool false)))) .nil)))) t92_1)
def x_sl8Good := b92_0
theorem u92_0 : vcK P x_sl8Good k e w = vcK P b92_0 k e w := rfl
def r_sl8Good : List XO := [(.mv (.t 4))]
theorem c_sl8Good : convF Try.prog [38, 39, 41, 42, 49, 54, 55, 57, 58, 59, 73, 79, 81, 84, 87, 139] Try.f92 [([2, 3], []), ([4], [])] = some (x_sl8Good, r_sl8Good) := by kernel_rfl
def us_sl8Good :=  (aI @u92_0 @u92_1)
abbrev b116_1 : X := (.cond (.t 12) (.seq (.reg [6] (.c (.q 14 [] (.fa 1 (.t 4))) (.c (.q 15 [] (.ld (.t 14))) (.c (.q 6 [] (.mv (.t 15))) .nil)))) .ret) .skip)
def t116_1 := b116_1
theorem u116_1 : vcK P t116_1 k e w = vcK P b116_1 k e w := rfl
abbrev b116_2 : X := (.cond (.t 8) (.seq (.reg [6] (.c (.q 10 [] (.fa 0 (.t 4))) (.c (.q 11 [] (.ld (.t 10))) (.c (.q 6 [] (.mv (.t 11))) .nil)))) .ret) (.seq (.reg [3, 4, 12] (.c (.q 13 [] (.bin .eql (.t 7) (.s [115]))) (.c (.q 12 [] (.mv (.t 13))) .nil))) t116_1))
def t116_2 := b116_2
theorem u116_2 : vcK P t116_2 k e w = vcK P b116_2 k e w := rfl
abbrev b116_3 : X := (.blk 0 (.seq (.reg [3, 4, 7, 8] (.c (.q 9 [] (.bin .eql (.t 7) (.s [98]))) (.c (.q 8 [] (.mv (.t 9))) .nil))) t116_2))
def t116_3 := b116_3
theorem u116_3 : vcK P t116_3 k e w = vcK P b116_3 k e w := rfl
abbrev b116_4 : X := (.seq (.reg [6] (.c (.q 16 [] (.fa 2 (.t 3))) (.c (.q 17 [] (.ld (.t 16))) (.c (.q 18 [] (.fa 2 (.t 3))) (.c (.q 19 [] (.ld (.t 18))) (.c (.q 20 [] (.lens (.t 19))) (.c (.q 21 [] (.bin .sub (.t 20) (.c (.int .i64 1)))) (.c (.q 22 [] (.ia 1 (.t 17) (.t 21))) (.c (.q 23 [] (.ld (.t 22))) (.c (.q 6 [] (.mv (.t 23))) .nil)))))))))) .ret)
def t116_4 := b116_4
theorem u116_4 : vcK P t116_4 k e w = vcK P b116_4 k e w := rfl
abbrev b116_5 : X := (.seq (.seq (.reg [3, 4, 7] (.c (.q 7 [] (.mv (.t 2))) .nil)) t116_3) t116_4)
def t116_5 := b116_5
theorem u116_5 : vcK P t116_5 k e w = vcK P b116_5 k e w := rfl
abbrev b116_0 : X := (.seq (.reg [2, 3, 4] (.c (.e (some 3) [] (.box 44 (.t 0))) (.c (.e (some 4) [] (.box 46 (.t 1))) (.c (.q 6 [] (.mv (.s []))) .nil)))) t116_5)
def x_sl8Change := b116_0
theorem u116_0 : vcK P x_sl8Change k e w = vcK P b116_0 k e w := rfl
def r_sl8Change : List XO := [(.mv (.t 6))]
theorem c_sl8Change : convF Try.prog [38, 39, 41, 42, 49, 54, 55, 57, 58, 59, 73, 79, 81, 84, 87, 139] Try.f116 [([2, 3, 4], []), ([3, 4, 7], []), ([3, 4, 7, 8], []), ([6], []), ([3, 4, 12], []), ([6], []), ([6], [])] = some (x_sl8Change, r_sl8Change) := by kernel_rfl
def us_sl8Change :=  (aI (aI @u116_0 (aI @u116_1 @u116_2)) (aI @u116_3 (aI @u116_4 @u116_5)))
abbrev b107_1 : X := (.seq (.reg [6] (.c (.q 25 [] (.mv (.t 9))) (.c (.q 26 [] (.lda 3 (.t 3))) (.c (.q 27 [] (.lda 2 (.t 4))) (.c (.q 28 [] (.mv (.t 2))) (.c (.e (some 29) [] (.call false 116 [(.t 26), (.t 27), (.t 28)])) (.c (.e (some 30) [] (.call false 108 [(.t 25), (.t 29)])) (.c (.q 6 [] (.mv (.t 30))) .nil)))))))) .ret)
def t107_1 := b107_1
theorem u107_1 : vcK P t107_1 k e w = vcK P b107_1 k e w := rfl
abbrev b107_2 : X := (.seq (.drw [2, 3, 4, 9] (.c (.q 15 [] (.fa 2 (.t 3))) (.c (.q 16 [] (.ld (.t 15))) (.c (.q 17 [] (.mv (.t 7))) (.c (.q 18 [] (.ssl 1 (.t 16) none (some (.t 17)))) (.c (.q 19 [] (.fa 1 (.t 3))) (.c (.q 20 [] (.ld (.t 19))) (.c (.e (some 21) [] (.call false 68 [(.t 20)])) (.c (.e (some 22) [] (.call false 95 [(.t 18), (.t 21)])) (.c (.q 14 [] (.mv (.t 22))) (.c (.q 23 [] (.ext 0 (.t 14))) (.c (.q 24 [] (.ext 1 (.t 14))) (.c (.q 8 [] (.mv (.t 23))) (.c (.q 9 [] (.mv (.t 24))) .nil)))))))))))))) t107_1)
def t107_2 := b107_2
theorem u107_2 : vcK P t107_2 k e w = vcK P b107_2 k e w := rfl
abbrev b107_3 : X := (.seq (.reg [2, 3, 4, 7] (.c (.q 10 [] (.fa 2 (.t 3))) (.c (.q 11 [] (.ld (.t 10))) (.c (.q 12 [] (.lens (.t 11))) (.c (.q 13 [] (.bin .sub (.t 12) (.c (.int .i64 1)))) (.c (.q 7 [] (.mv (.t 13))) .nil)))))) t107_2)
def t107_3 := b107_3
theorem u107_3 : vcK P t107_3 k e w = vcK P b107_3 k e w := rfl
abbrev b107_0 : X := (.seq (.reg [2, 3, 4] (.c (.e (some 3) [] (.box 44 (.t 0))) (.c (.e (some 4) [] (.box 46 (.t 1))) (.c (.q 6 [] (.mv (.s []))) .nil)))) t107_3)
def x_sl8Head := b107_0
theorem u107_0 : vcK P x_sl8Head k e w = vcK P b107_0 k e w := rfl
def r_sl8Head : List XO := [(.mv (.t 6))]
theorem c_sl8Head : convF Try.prog [38, 39, 41, 42, 49, 54, 55, 57, 58, 59, 73, 79, 81, 84, 87, 139] Try.f107 [([2, 3, 4], []), ([2, 3, 4, 7], []), ([2, 3, 4, 9], []), ([6], [])] = some (x_sl8Head, r_sl8Head) := by kernel_rfl
def us_sl8Head :=  (aI (aI @u107_0 @u107_1) (aI @u107_2 @u107_3))
end
/-- The cells of calls: bob, single. -/
def fQ (b s : List UInt8) : List Value := [S b, S s]
abbrev kV (b s : List UInt8) : Value := .agg ⟨fQ b s⟩
theorem fQg (b s : List UInt8) : (∀ v, (fQ b s).getD 0 v = S b) ∧ (∀ v, (fQ b s).getD 1 v = S s) ∧ (fQ b s).length = 2 := ⟨fun _ => rfl, fun _ => rfl, rfl⟩
theorem fQ_one (b s : List UInt8) : ∀ u ∈ fQ b s, u.oneCell' = true := fun u h => by simp only [fQ, List.mem_cons, List.not_mem_nil, or_false] at h; rcases h with rfl | rfl <;> rfl
def IsCall (l : List UInt8) : Prop := l = [112] ∨ l = [98] ∨ l = [115]
instance (l : List UInt8) : Decidable (IsCall l) := by unfold IsCall; infer_instance
/-- A method with calls. -/
def IsMC (nm : List UInt8) (st : Int) (cs : List (List UInt8)) (b s : List UInt8) : Prop := IsMethod nm st cs ∧ IsChange st b ∧ IsChange st s
instance (nm : List UInt8) (st : Int) (cs : List (List UInt8)) (b s : List UInt8) : Decidable (IsMC nm st cs b s) := by unfold IsMC; infer_instance
theorem iGoodCalls_ok (nm : List UInt8) (st : Int) (v : Value) (cs : List (List UInt8)) (b s : List UInt8) (hnm : nm.length ≤ 1048576) (hs : ∀ c ∈ cs, c.length ≤ 1048576) (hl : cs.length ≤ 1000000000) (hb : b.length ≤ 1048576 ∧ s.length ≤ 1048576) (w : World) (h : Sq fS 1 w v cs) : Fn 88 [mV nm st v, kV b s] w (fun r _ => r = .bool (decide (IsMC nm st cs b s))) := by
  (refine callsV_of mix Try.func88 c_iGoodCalls ?_; simp only [↓vsd, vsn, gW, qd, qv, ev, pick, argE, zipE, ne_eq, eq_self, forall_const, implies_true, if_true, if_false, reduceIte, reduceCtorEq, Nat.reduceEqDiff, Nat.reduceAdd, Nat.reduceLT, ↓us_iGoodCalls, r_iGoodCalls])
  refine m_al ?_
  rintro b1 w1 hb1 hblk1 hx1 hs1
  have h1 : Blk w1 b1 (fM nm st v) 44 := hblk1
  simp only [↓vsd, vsn, gW, qd, qv, ev, pick, argE, zipE, ne_eq, eq_self, forall_const, implies_true, if_true, if_false, reduceIte, reduceCtorEq, Nat.reduceEqDiff, Nat.reduceAdd, Nat.reduceLT, ↓us_iGoodCalls, r_iGoodCalls, h1.facts, fMg]
  refine m_al ?_
  rintro b2 w2 hb2 hblk2 hx2 hs2
  have h2 : Blk w2 b2 (fQ b s) 46 := hblk2
  have h12 := h1.ext hx2
  have hx12 := hx1.trans hx2
  simp only [↓vsd, vsn, gW, qd, qv, ev, pick, argE, zipE, ne_eq, eq_self, forall_const, implies_true, if_true, if_false, reduceIte, reduceCtorEq, Nat.reduceEqDiff, Nat.reduceAdd, Nat.reduceLT, ↓us_iGoodCalls, r_iGoodCalls, h12.facts, h2.facts, fMg, fQg]
  refine m_call (iGoodMethod_ok nm st v cs hnm hs hl _ (h.ext hx12)) ?_
  rintro _ w3 hx3 rfl
  have h13 := h12.ext hx3
  have h23 := h2.ext hx3
  simp only [↓vsd, vsn, gW, qd, qv, ev, pick, argE, zipE, ne_eq, eq_self, forall_const, implies_true, if_true, if_false, reduceIte, reduceCtorEq, Nat.reduceEqDiff, Nat.reduceAdd, Nat.reduceLT, ↓us_iGoodCalls, r_iGoodCalls, h13.facts, h23.facts, fMg, fQg]
  refine ⟨fun hm => m_call (iGoodChange_ok st b hb.1 _) ?_, fun hm => ?_⟩
  · rintro _ w4 hx4 rfl
    have h14 := h13.ext hx4
    have h24 := h23.ext hx4
    simp only [↓vsd, vsn, gW, qd, qv, ev, pick, argE, zipE, ne_eq, eq_self, forall_const, implies_true, if_true, if_false, reduceIte, reduceCtorEq, Nat.reduceEqDiff, Nat.reduceAdd, Nat.reduceLT, ↓us_iGoodCalls, r_iGoodCalls, h14.facts, h24.facts, fMg, fQg]
    refine ⟨fun hcb => m_call (iGoodChange_ok st s hb.2 _) ?_, fun hcb => ⟨(hx12.trans hx3).trans hx4, by rw [decide_eq_false fun hh : IsMC nm st cs b s => hcb ⟨hh.1, hh.2.1⟩]⟩⟩
    rintro _ w5 hx5 rfl
    simp only [↓vsd, vsn, gW, qd, qv, ev, pick, argE, zipE, ne_eq, eq_self, forall_const, implies_true, if_true, if_false, reduceIte, reduceCtorEq, Nat.reduceEqDiff, Nat.reduceAdd, Nat.reduceLT, ↓us_iGoodCalls, r_iGoodCalls]
    exact ⟨((hx12.trans hx3).trans hx4).trans hx5, by simp [IsMC, hm, hcb]⟩
  · exact ⟨hx12.trans hx3, by simp [IsMC, hm]⟩
theorem sl8Good_ok (nm : List UInt8) (st : Int) (v : Value) (cs : List (List UInt8)) (b s : List UInt8) (hnm : nm.length ≤ 1048576) (hs : ∀ c ∈ cs, c.length ≤ 1048576) (hl : cs.length ≤ 1000000000) (hb : b.length ≤ 1048576 ∧ s.length ≤ 1048576) (w : World) (h : Sq fS 1 w v cs) : Fn 92 [mV nm st v, kV b s] w (fun r _ => r = .bool (decide (IsMC nm st cs b s))) := by
  (refine callsV_of mix Try.func92 c_sl8Good ?_; simp only [↓vsd, vsn, gW, qd, qv, ev, pick, argE, zipE, ne_eq, eq_self, forall_const, implies_true, if_true, if_false, reduceIte, reduceCtorEq, Nat.reduceEqDiff, Nat.reduceAdd, Nat.reduceLT, ↓us_sl8Good, r_sl8Good])
  refine m_al ?_
  rintro b1 w1 hb1 hblk1 hx1 hs1
  have h1 : Blk w1 b1 (fM nm st v) 44 := hblk1
  simp only [↓vsd, vsn, gW, qd, qv, ev, pick, argE, zipE, ne_eq, eq_self, forall_const, implies_true, if_true, if_false, reduceIte, reduceCtorEq, Nat.reduceEqDiff, Nat.reduceAdd, Nat.reduceLT, ↓us_sl8Good, r_sl8Good, h1.facts, fMg]
  refine m_al ?_
  rintro b2 w2 hb2 hblk2 hx2 hs2
  have h2 : Blk w2 b2 (fQ b s) 46 := hblk2
  have h12 := h1.ext hx2
  have hx12 := hx1.trans hx2
  simp only [↓vsd, vsn, gW, qd, qv, ev, pick, argE, zipE, ne_eq, eq_self, forall_const, implies_true, if_true, if_false, reduceIte, reduceCtorEq, Nat.reduceEqDiff, Nat.reduceAdd, Nat.reduceLT, ↓us_sl8Good, r_sl8Good, h12.facts, h2.facts, fMg, fQg]
  refine m_call (sl4Good_ok nm st v cs hnm hs hl _ (h.ext hx12)) ?_
  rintro _ w3 hx3 rfl
  have h13 := h12.ext hx3
  have h23 := h2.ext hx3
  simp only [↓vsd, vsn, gW, qd, qv, ev, pick, argE, zipE, ne_eq, eq_self, forall_const, implies_true, if_true, if_false, reduceIte, reduceCtorEq, Nat.reduceEqDiff, Nat.reduceAdd, Nat.reduceLT, ↓us_sl8Good, r_sl8Good, h13.facts, h23.facts, fMg, fQg]
  refine ⟨fun hm => m_call (sl2Change_ok st b hb.1 _) ?_, fun hm => ?_⟩
  · rintro _ w4 hx4 rfl
    have h14 := h13.ext hx4
    have h24 := h23.ext hx4
    simp only [↓vsd, vsn, gW, qd, qv, ev, pick, argE, zipE, ne_eq, eq_self, forall_const, implies_true, if_true, if_false, reduceIte, reduceCtorEq, Nat.reduceEqDiff, Nat.reduceAdd, Nat.reduceLT, ↓us_sl8Good, r_sl8Good, h14.facts, h24.facts, fMg, fQg]
    refine ⟨fun hcb => m_call (sl2Change_ok st s hb.2 _) ?_, fun hcb => ⟨(hx12.trans hx3).trans hx4, by rw [decide_eq_false fun hh : IsMC nm st cs b s => hcb ⟨hh.1, hh.2.1⟩]⟩⟩
    rintro _ w5 hx5 rfl
    simp only [↓vsd, vsn, gW, qd, qv, ev, pick, argE, zipE, ne_eq, eq_self, forall_const, implies_true, if_true, if_false, reduceIte, reduceCtorEq, Nat.reduceEqDiff, Nat.reduceAdd, Nat.reduceLT, ↓us_sl8Good, r_sl8Good]
    exact ⟨((hx12.trans hx3).trans hx4).trans hx5, by simp [IsMC, hm, hcb]⟩
  · exact ⟨hx12.trans hx3, by simp [IsMC, hm]⟩
/-- The last change of a lead with a call. -/
def chgOf (cs : List (List UInt8)) (b s call : List UInt8) : List UInt8 := if call = [98] then b else if call = [115] then s else cs.getD (cs.length - 1) []
def calledCs (cs : List (List UInt8)) (b s call : List UInt8) : List (List UInt8) := cs.take (cs.length - 1) ++ [chgOf cs b s call]
/-- The lead head of a lead with a call. -/
def headC (st : Nat) (cs : List (List UInt8)) (b s call : List UInt8) : List UInt8 := underL (roundsL st) (calledCs cs b s call)
theorem headC_eq (st : Nat) (cs : List (List UInt8)) (b s call : List UInt8) : headC st cs b s call = applyL (underL (roundsL st) (cs.take (cs.length - 1))) (chgOf cs b s call) := by
  rw [headC, calledCs, underL, underL, List.foldl_append]; rfl
theorem calledCs_len (cs : List (List UInt8)) (b s call : List UInt8) (h : 1 ≤ cs.length) : (calledCs cs b s call).length = cs.length := by
  simp [calledCs]; omega
theorem IsMC.chg {nm : List UInt8} {st : Int} {cs : List (List UInt8)} {b s : List UInt8} (h : IsMC nm st cs b s) (call : List UInt8) : IsChange st (chgOf cs b s call) := by
  unfold chgOf
  split
  · exact h.2.1
  · split
    · exact h.2.2
    · exact h.1.2.2.2 _ (getD_mem [] (by have := h.1.2.2.1; omega))
theorem IsMC.called {nm : List UInt8} {st : Int} {cs : List (List UInt8)} {b s : List UInt8} (h : IsMC nm st cs b s) (call : List UInt8) : IsMethod nm st (calledCs cs b s call) := by
  refine ⟨h.1.1, h.1.2.1, by rw [calledCs_len _ _ _ _ h.1.2.2.1.1]; exact h.1.2.2.1, fun c hc => ?_⟩
  rcases List.mem_append.1 hc with hc | hc
  · exact h.1.2.2.2 c (List.mem_of_mem_take hc)
  · rw [List.mem_singleton.1 hc]; exact h.chg call
theorem headC_row {nm : List UInt8} {st : Nat} {cs : List (List UInt8)} {b s : List UInt8} (h : IsMC nm st cs b s) (call : List UInt8) : IsRow (headC st cs b s call) ∧ (headC st cs b s call).length = st := by
  have h8 := h.1.2.1
  exact ⟨underL_row _ (roundsL_row st (by omega)), by rw [headC, underL_len, roundsL_len]⟩
theorem IsChange.small {n : Int} {c : List UInt8} (h : IsChange n c) : c.length ≤ 8 := by have := h.len; have := h.1; omega
theorem sl8Change_ok (nm : List UInt8) (st : Int) (v : Value) (cs : List (List UInt8)) (b s call : List UInt8) (hl : 1 ≤ cs.length ∧ cs.length ≤ 40) (w : World) (h : Sq fS 1 w v cs) : Fn 116 [mV nm st v, kV b s, S call] w (fun r _ => r = S (chgOf cs b s call)) := by
  (refine callsV_of mix Try.func116 c_sl8Change ?_; simp only [↓vsd, vsn, gW, qd, qv, ev, pick, argE, zipE, ne_eq, eq_self, forall_const, implies_true, if_true, if_false, reduceIte, reduceCtorEq, Nat.reduceEqDiff, Nat.reduceAdd, Nat.reduceLT, ↓us_sl8Change, r_sl8Change])
  refine m_al ?_
  rintro b1 w1 hb1 hblk1 hx1 hs1
  have h1 : Blk w1 b1 (fM nm st v) 44 := hblk1
  simp only [↓vsd, vsn, gW, qd, qv, ev, pick, argE, zipE, ne_eq, eq_self, forall_const, implies_true, if_true, if_false, reduceIte, reduceCtorEq, Nat.reduceEqDiff, Nat.reduceAdd, Nat.reduceLT, ↓us_sl8Change, r_sl8Change, h1.facts, fMg]
  refine m_al ?_
  rintro b2 w2 hb2 hblk2 hx2 hs2
  have h2 : Blk w2 b2 (fQ b s) 46 := hblk2
  have h12 := h1.ext hx2
  have hx12 := hx1.trans hx2
  have hq := h.ext hx12
  have hI : ((cs.length : Nat) : Int) - 1 = ((cs.length - 1 : Nat) : Int) := by omega
  have hlt : cs.length - 1 < cs.length := by omega
  simp only [↓vsd, vsn, gW, qd, qv, ev, pick, argE, zipE, ne_eq, eq_self, forall_const, implies_true, if_true, if_false, reduceIte, reduceCtorEq, Nat.reduceEqDiff, Nat.reduceAdd, Nat.reduceLT, ↓us_sl8Change, r_sl8Change, h12.facts, h2.facts, fMg, fQg, hq.facts, hI, hq.at1 [] hlt]
  refine ⟨fun h1 => ⟨hx12, by rw [chgOf, if_pos h1]⟩, fun h1 => ⟨fun h2 => ⟨hx12, by rw [chgOf, if_neg h1, if_pos h2]⟩, fun h2 => ⟨inR_i64 (by omega), by omega, hx12, by rw [chgOf, if_neg h1, if_neg h2]⟩⟩⟩
theorem sl8Head_ok (nm : List UInt8) (st : Nat) (v : Value) (cs : List (List UInt8)) (b s call : List UInt8) (hm : IsMC nm st cs b s) (w : World) (h : Sq fS 1 w v cs) : Fn 107 [mV nm st v, kV b s, S call] w (fun r _ => r = S (headC st cs b s call)) := by
  (refine callsV_of mix Try.func107 c_sl8Head ?_; simp only [↓vsd, vsn, gW, qd, qv, ev, pick, argE, zipE, ne_eq, eq_self, forall_const, implies_true, if_true, if_false, reduceIte, reduceCtorEq, Nat.reduceEqDiff, Nat.reduceAdd, Nat.reduceLT, ↓us_sl8Head, r_sl8Head])
  refine m_al ?_
  rintro b1 w1 hb1 hblk1 hx1 hs1
  have h1 : Blk w1 b1 (fM nm st v) 44 := hblk1
  simp only [↓vsd, vsn, gW, qd, qv, ev, pick, argE, zipE, ne_eq, eq_self, forall_const, implies_true, if_true, if_false, reduceIte, reduceCtorEq, Nat.reduceEqDiff, Nat.reduceAdd, Nat.reduceLT, ↓us_sl8Head, r_sl8Head, h1.facts, fMg]
  refine m_al ?_
  rintro b2 w2 hb2 hblk2 hx2 hs2
  have h2 : Blk w2 b2 (fQ b s) 46 := hblk2
  have h12 := h1.ext hx2
  have hx12 := hx1.trans hx2
  have hq := h.ext hx12
  have hc := hm.1.2.2.1
  have h8 := hm.1.2.1
  have hI : ((cs.length : Nat) : Int) - 1 = ((cs.length - 1 : Nat) : Int) := by omega
  obtain ⟨hd, hqh⟩ := hq.headS .i64 (cs.length - 1) (by omega)
  simp only [↓vsd, vsn, gW, qd, qv, ev, pick, argE, zipE, ne_eq, eq_self, forall_const, implies_true, if_true, if_false, reduceIte, reduceCtorEq, Nat.reduceEqDiff, Nat.reduceAdd, Nat.reduceLT, ↓us_sl8Head, r_sl8Head, h12.facts, h2.facts, fMg, fQg, hq.facts, hI, hd]
  refine ⟨inR_i64 (by omega), m_call (sl1Rounds_ok st (by omega) _) ?_⟩
  rintro _ w3 hx3 rfl
  have hx3 := ud hx3
  have h13 := h12.ext hx3
  have h23 := h2.ext hx3
  simp only [↓vsd, vsn, gW, qd, qv, ev, pick, argE, zipE, ne_eq, eq_self, forall_const, implies_true, if_true, if_false, reduceIte, reduceCtorEq, Nat.reduceEqDiff, Nat.reduceAdd, Nat.reduceLT, ↓us_sl8Head, r_sl8Head, h13.facts, h23.facts, fMg, fQg]
  refine m_call (sl4Lead_ok (roundsL st) _ (cs.take (cs.length - 1)) st (roundsL_row st (by omega)) (fun c hc => hm.1.2.2.2 c (List.mem_of_mem_take hc)) (by rw [List.length_take]; omega) _ (hqh.ext hx3)) ?_
  rintro _ w4 hx4 ⟨x, rfl, ho⟩
  have h14 := h13.ext hx4
  have h24 := h23.ext hx4
  have hx14 := (hx12.trans hx3).trans hx4
  simp only [↓vsd, vsn, gW, qd, qv, ev, pick, argE, zipE, ne_eq, eq_self, forall_const, implies_true, if_true, if_false, reduceIte, reduceCtorEq, Nat.reduceEqDiff, Nat.reduceAdd, Nat.reduceLT, ↓us_sl8Head, r_sl8Head, h14.facts, h24.facts, fMg, fQg]
  refine m_call (sl8Change_ok nm st v cs b s call hc _ (h.ext hx14)) ?_
  rintro _ w5 hx5 rfl
  simp only [↓vsd, vsn, gW, qd, qv, ev, pick, argE, zipE, ne_eq, eq_self, forall_const, implies_true, if_true, if_false, reduceIte, reduceCtorEq, Nat.reduceEqDiff, Nat.reduceAdd, Nat.reduceLT, ↓us_sl8Head, r_sl8Head]
  refine m_call (sl2Apply_ok _ _ (underL_row _ (roundsL_row st (by omega))) (by have := (hm.chg call).small; omega) _) ?_
  rintro _ w6 hx6 rfl
  simp only [↓vsd, vsn, gW, qd, qv, ev, pick, argE, zipE, ne_eq, eq_self, forall_const, implies_true, if_true, if_false, reduceIte, reduceCtorEq, Nat.reduceEqDiff, Nat.reduceAdd, Nat.reduceLT, ↓us_sl8Head, r_sl8Head]
  exact ⟨(hx14.trans hx5).trans hx6, by rw [headC_eq]⟩
end Go.Proofs.Ytfklonhjgkahdaa
