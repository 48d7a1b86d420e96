/-
  Valid touches, of both sides.
  Conditions: none.
-/
import Derived.Test.YthopbkemkfjebaaGreatKA17
set_option linter.unusedSimpArgs false
set_option linter.unusedVariables false
set_option linter.defProp false
namespace Go.Proofs.YthopbkemkfjebaaGreat
open Go Go.RowKit
section
variable (P : Program) (k : KT) (e : Env) (w : World)
abbrev b124_1 : X := (.cond (.t 15) (.seq (.reg [2] (.c (.q 2 [] (.mv (.c (.bool false)))) .nil)) .ret) .skip)
def t124_1 := b124_1
theorem u124_1 : vcK P t124_1 k e w = vcK P b124_1 k e w := rfl
abbrev b124_2 : X := (.seq (.reg [0, 5, 6, 15] (.c (.q 9 [] (.mv (.t 0))) (.c (.q 10 [] (.mv (.t 3))) (.c (.q 11 [] (.mv (.t 3))) (.c (.q 12 [] (.bin .add (.t 11) (.c (.int .i64 1)))) (.c (.q 13 [] (.sub (.t 9) (some (.t 10)) (some (.t 12)))) (.c (.e (some 14) [] (.call false 129 [(.t 13)])) (.c (.q 15 [] (.not (.t 14))) .nil)))))))) t124_1)
def t124_2 := b124_2
theorem u124_2 : vcK P t124_2 k e w = vcK P b124_2 k e w := rfl
abbrev b124_3 : X := (.reg [0, 5, 6] (.c (.q 16 [] (.bin .add (.t 6) (.c (.int .i64 1)))) (.c (.q 6 [] (.mv (.t 16))) .nil)))
def t124_3 := b124_3
theorem u124_3 : vcK P t124_3 k e w = vcK P b124_3 k e w := rfl
abbrev b124_4 : X := (.seq (.blk 1 (.seq (.reg [0, 3, 5, 6] (.c (.q 8 [] (.mv (.t 6))) (.c (.q 3 [] (.mv (.t 8))) .nil))) t124_2)) t124_3)
def t124_4 := b124_4
theorem u124_4 : vcK P t124_4 k e w = vcK P b124_4 k e w := rfl
abbrev b124_5 : X := (.seq (.cond (.t 7) .skip (.exit 0)) t124_4)
def t124_5 := b124_5
theorem u124_5 : vcK P t124_5 k e w = vcK P b124_5 k e w := rfl
abbrev b124_6 : X := (.seq (.reg [0, 5, 6, 7] (.c (.q 7 [] (.bin .lss (.t 6) (.t 5))) .nil)) t124_5)
def t124_6 := b124_6
theorem u124_6 : vcK P t124_6 k e w = vcK P b124_6 k e w := rfl
abbrev b124_7 : X := (.blk 0 (.loop [6] [0, 5] t124_6))
def t124_7 := b124_7
theorem u124_7 : vcK P t124_7 k e w = vcK P b124_7 k e w := rfl
abbrev b124_8 : X := (.seq (.reg [2] (.c (.q 2 [] (.mv (.c (.bool true)))) .nil)) .ret)
def t124_8 := b124_8
theorem u124_8 : vcK P t124_8 k e w = vcK P b124_8 k e w := rfl
abbrev b124_9 : X := (.seq (.seq (.reg [0, 5, 6] (.c (.q 4 [] (.mv (.t 0))) (.c (.q 5 [] (.len (.t 4))) (.c (.q 6 [] (.mv (.c (.int .i64 0)))) .nil)))) t124_7) t124_8)
def t124_9 := b124_9
theorem u124_9 : vcK P t124_9 k e w = vcK P b124_9 k e w := rfl
abbrev b124_0 : X := (.seq (.reg [0] (.c (.q 2 [] (.mv (.c (.bool false)))) .nil)) t124_9)
def x_iareCalls := b124_0
theorem u124_0 : vcK P x_iareCalls k e w = vcK P b124_0 k e w := rfl
def r_iareCalls : List XO := [(.mv (.t 2))]
theorem c_iareCalls : convF Tryz.prog [56, 58, 59, 60, 61, 62, 72, 73, 77, 97, 98, 109, 110, 111, 112, 115, 128, 136] Tryz.f124 [([0], []), ([0, 5, 6], []), ([6], [0, 5]), ([0, 5, 6, 7], []), ([0, 3, 5, 6], []), ([0, 5, 6, 15], []), ([2], []), ([0, 5, 6], []), ([2], [])] = some (x_iareCalls, r_iareCalls) := by kernel_rfl
def us_iareCalls :=  (aI (aI (aI @u124_0 @u124_1) (aI @u124_2 (aI @u124_3 @u124_4))) (aI (aI @u124_5 @u124_6) (aI @u124_7 (aI @u124_8 @u124_9))))
abbrev b74_1 : X := (.seq (.reg [2] (.c (.q 3 [] (.mv (.t 0))) (.c (.q 4 [] (.len (.t 3))) (.c (.q 5 [] (.bin .geq (.t 4) (.c (.int .i64 1)))) (.c (.q 6 [] (.mv (.t 5))) (.c (.q 7 [(6, true)] (.mv (.t 0))) (.c (.q 8 [(6, true)] (.len (.t 7))) (.c (.q 9 [(6, true)] (.bin .leq (.t 8) (.c (.int .i64 60)))) (.c (.q 10 [] (.pick (.t 6) (.t 9) (.c (.bool false)))) (.c (.q 11 [] (.mv (.t 10))) (.c (.q 12 [(11, true)] (.mv (.t 0))) (.c (.e (some 13) [(11, true)] (.call false 124 [(.t 12)])) (.c (.q 14 [] (.pick (.t 11) (.t 13) (.c (.bool false)))) (.c (.q 2 [] (.mv (.t 14))) .nil)))))))))))))) .ret)
def t74_1 := b74_1
theorem u74_1 : vcK P t74_1 k e w = vcK P b74_1 k e w := rfl
abbrev b74_0 : X := (.seq (.reg [0] (.c (.q 2 [] (.mv (.c (.bool false)))) .nil)) t74_1)
def x_iGoodTouch := b74_0
theorem u74_0 : vcK P x_iGoodTouch k e w = vcK P b74_0 k e w := rfl
def r_iGoodTouch : List XO := [(.mv (.t 2))]
theorem c_iGoodTouch : convF Tryz.prog [56, 58, 59, 60, 61, 62, 72, 73, 77, 97, 98, 109, 110, 111, 112, 115, 128, 136] Tryz.f74 [([0], []), ([2], [])] = some (x_iGoodTouch, r_iGoodTouch) := by kernel_rfl
def us_iGoodTouch :=  (aI @u74_0 @u74_1)
abbrev b76_1 : X := (.cond (.t 7) .skip (.exit 0))
def t76_1 := b76_1
theorem u76_1 : vcK P t76_1 k e w = vcK P b76_1 k e w := rfl
abbrev b76_2 : X := (.cond (.t 16) (.seq (.reg [2] (.c (.q 2 [] (.mv (.c (.bool false)))) .nil)) .ret) .skip)
def t76_2 := b76_2
theorem u76_2 : vcK P t76_2 k e w = vcK P b76_2 k e w := rfl
abbrev b76_3 : X := (.reg [0, 3] (.c (.q 8 [] (.mv (.t 3))) (.c (.q 9 [] (.bin .add (.t 8) (.c (.int .i64 1)))) (.c (.q 3 [] (.mv (.t 9))) .nil))))
def t76_3 := b76_3
theorem u76_3 : vcK P t76_3 k e w = vcK P b76_3 k e w := rfl
abbrev b76_4 : X := (.seq (.blk 1 (.seq (.reg [0, 3, 16] (.c (.q 10 [] (.mv (.t 0))) (.c (.q 11 [] (.mv (.t 3))) (.c (.q 12 [] (.mv (.t 3))) (.c (.q 13 [] (.bin .add (.t 12) (.c (.int .i64 1)))) (.c (.q 14 [] (.sub (.t 10) (some (.t 11)) (some (.t 13)))) (.c (.e (some 15) [] (.call false 125 [(.t 14)])) (.c (.q 16 [] (.not (.t 15))) .nil)))))))) t76_2)) t76_3)
def t76_4 := b76_4
theorem u76_4 : vcK P t76_4 k e w = vcK P b76_4 k e w := rfl
abbrev b76_5 : X := (.seq (.seq (.reg [0, 3, 7] (.c (.q 4 [] (.mv (.t 3))) (.c (.q 5 [] (.mv (.t 0))) (.c (.q 6 [] (.len (.t 5))) (.c (.q 7 [] (.bin .lss (.t 4) (.t 6))) .nil))))) t76_1) t76_4)
def t76_5 := b76_5
theorem u76_5 : vcK P t76_5 k e w = vcK P b76_5 k e w := rfl
abbrev b76_6 : X := (.blk 0 (.loop [3] [0] t76_5))
def t76_6 := b76_6
theorem u76_6 : vcK P t76_6 k e w = vcK P b76_6 k e w := rfl
abbrev b76_7 : X := (.seq (.reg [2] (.c (.q 17 [] (.mv (.t 0))) (.c (.q 18 [] (.len (.t 17))) (.c (.e (some 19) [] (.call false 67 [(.t 18), (.c (.int .i64 1)), (.c (.int .i64 60))])) (.c (.q 2 [] (.mv (.t 19))) .nil))))) .ret)
def t76_7 := b76_7
theorem u76_7 : vcK P t76_7 k e w = vcK P b76_7 k e w := rfl
abbrev b76_8 : X := (.seq (.seq (.reg [0, 3] (.c (.q 3 [] (.mv (.c (.int .i64 0)))) .nil)) t76_6) t76_7)
def t76_8 := b76_8
theorem u76_8 : vcK P t76_8 k e w = vcK P b76_8 k e w := rfl
abbrev b76_0 : X := (.seq (.reg [0] (.c (.q 2 [] (.mv (.c (.bool false)))) .nil)) t76_8)
def x_sl9Good := b76_0
theorem u76_0 : vcK P x_sl9Good k e w = vcK P b76_0 k e w := rfl
def r_sl9Good : List XO := [(.mv (.t 2))]
theorem c_sl9Good : convF Tryz.prog [56, 58, 59, 60, 61, 62, 72, 73, 77, 97, 98, 109, 110, 111, 112, 115, 128, 136] Tryz.f76 [([0], []), ([0, 3], []), ([3], [0]), ([0, 3, 7], []), ([0, 3, 16], []), ([2], []), ([0, 3], []), ([2], [])] = some (x_sl9Good, r_sl9Good) := by kernel_rfl
def us_sl9Good :=  (aI (aI (aI @u76_0 @u76_1) (aI @u76_2 @u76_3)) (aI (aI @u76_4 @u76_5) (aI @u76_6 (aI @u76_7 @u76_8))))
abbrev b48_1 : X := (.seq (.reg [6] (.c (.q 7 [] (.lda 3 (.t 3))) (.c (.q 8 [] (.lda 2 (.t 4))) (.c (.e (some 9) [] (.call false 82 [(.t 7), (.t 8)])) (.c (.q 10 [] (.mv (.t 9))) (.c (.q 11 [(10, true)] (.mv (.t 2))) (.c (.e (some 12) [(10, true)] (.call false 76 [(.t 11)])) (.c (.q 13 [] (.pick (.t 10) (.t 12) (.c (.bool false)))) (.c (.q 6 [] (.mv (.t 13))) .nil))))))))) .ret)
def t48_1 := b48_1
theorem u48_1 : vcK P t48_1 k e w = vcK P b48_1 k e w := rfl
abbrev b48_0 : X := (.seq (.reg [2, 3, 4] (.c (.e (some 3) [] (.box 25 (.t 0))) (.c (.e (some 4) [] (.box 27 (.t 1))) (.c (.q 6 [] (.mv (.c (.bool false)))) .nil)))) t48_1)
def x_sl9Asked := b48_0
theorem u48_0 : vcK P x_sl9Asked k e w = vcK P b48_0 k e w := rfl
def r_sl9Asked : List XO := [(.mv (.t 6))]
theorem c_sl9Asked : convF Tryz.prog [56, 58, 59, 60, 61, 62, 72, 73, 77, 97, 98, 109, 110, 111, 112, 115, 128, 136] Tryz.f48 [([2, 3, 4], []), ([6], [])] = some (x_sl9Asked, r_sl9Asked) := by kernel_rfl
def us_sl9Asked :=  (aI @u48_0 @u48_1)
end
/-- A touch. -/
def IsTch (l : List UInt8) : Prop := (1 ≤ l.length ∧ l.length ≤ 60) ∧ ∀ c ∈ l, IsCall [c]
instance (l : List UInt8) : Decidable (IsTch l) := by unfold IsTch; infer_instance
theorem iareCalls_okt (l : List UInt8) (hl : l.length ≤ 1000000000) (w : World) : Fn 124 [S l] w (fun r _ => r = .bool (decide (∀ c ∈ l, IsCall [c]))) := by
  (refine callsV_of mix Tryz.func124 c_iareCalls ?_; simp only [↓vsd, vsn, gW, qd, qv, ev, pick, argE, zipE, ne_eq, eq_self, forall_const, implies_true, if_true, if_false, reduceIte, reduceCtorEq, Nat.reduceEqDiff, Nat.reduceAdd, Nat.reduceLT, ↓us_iareCalls, r_iareCalls])
  refine m_upto l.length (fun k vs w' => vs = [.int .i64 k] ∧ (∀ c ∈ l.take k, IsCall [c]) ∧ Ext w w') ⟨rfl, by simp, Ext.refl _⟩ ?_
  rintro k vs w1 hk ⟨rfl, hc, hx⟩
  by_cases hlt : k < l.length
  · have hltI : (k : Int) < l.length := by omega
    have hltJ : ¬ (l.length : Int) ≤ k := by omega
    have h1 := sub_one l k hlt
    simp only [↓vsd, vsn, gW, qd, qv, ev, pick, argE, zipE, ne_eq, eq_self, forall_const, implies_true, if_true, if_false, reduceIte, reduceCtorEq, Nat.reduceEqDiff, Nat.reduceAdd, Nat.reduceLT, ↓us_iareCalls, r_iareCalls, hltI, hltJ]
    rw [h1]
    refine ⟨inR_i64 (by omega), by omega, m_call (iisCall_okc _ _) ?_⟩
    rintro _ w2 hx2 rfl
    have hx12 : Ext w w2 := by first | exact hx.trans hx2 | exact hx.trans (ud hx2)
    simp only [↓vsd, vsn, gW, qd, qv, ev, pick, argE, zipE, ne_eq, eq_self, forall_const, implies_true, if_true, if_false, reduceIte, reduceCtorEq, Nat.reduceEqDiff, Nat.reduceAdd, Nat.reduceLT, ↓us_iareCalls, r_iareCalls]
    refine ⟨fun hno => ⟨hx12, ?_⟩, fun hyes => ⟨inR_i64 (by omega), UpTo.next hlt ⟨rfl, fun c hm => ?_, hx12⟩⟩⟩
    · rw [decide_eq_false fun hh => hno (hh _ (getD_mem 0 hlt))]
    · rcases mem_take (d := 0) hlt hm with h | rfl
      · exact hc c h
      · exact hyes
  · obtain rfl : k = l.length := by omega
    have hltI : ¬ (l.length : Int) < l.length := by omega
    simp only [↓vsd, vsn, gW, qd, qv, ev, pick, argE, zipE, ne_eq, eq_self, forall_const, implies_true, if_true, if_false, reduceIte, reduceCtorEq, Nat.reduceEqDiff, Nat.reduceAdd, Nat.reduceLT, ↓us_iareCalls, r_iareCalls, hltI]
    rw [List.take_length] at hc
    exact ⟨hx, by rw [decide_eq_true hc]⟩
theorem iGoodTouch_okt (l : List UInt8) (hl : l.length ≤ 1000000000) (w : World) : Fn 74 [S l] w (fun r _ => r = .bool (decide (IsTch l))) := by
  (refine callsV_of mix Tryz.func74 c_iGoodTouch ?_; simp only [↓vsd, vsn, gW, qd, qv, ev, pick, argE, zipE, ne_eq, eq_self, forall_const, implies_true, if_true, if_false, reduceIte, reduceCtorEq, Nat.reduceEqDiff, Nat.reduceAdd, Nat.reduceLT, ↓us_iGoodTouch, r_iGoodTouch])
  refine ⟨fun h => m_call (iareCalls_okt l hl _) ?_, fun h => ⟨Ext.refl _, ?_⟩⟩
  · rintro _ w1 hx1 rfl
    simp only [↓vsd, vsn, gW, qd, qv, ev, pick, argE, zipE, ne_eq, eq_self, forall_const, implies_true, if_true, if_false, reduceIte, reduceCtorEq, Nat.reduceEqDiff, Nat.reduceAdd, Nat.reduceLT, ↓us_iGoodTouch, r_iGoodTouch]
    refine ⟨hx1, ?_⟩
    simp only [← Bool.decide_and]
    congr 1
    exact propext ⟨fun h2 => ⟨by omega, h2.2⟩, fun h2 => ⟨by omega, h2.2⟩⟩
  · have : ¬ IsTch l := fun h2 => h (by have := h2.1; omega)
    simp only [this, decide_false]
theorem sl9Good_okt (l : List UInt8) (hl : l.length ≤ 1000000000) (w : World) : Fn 76 [S l] w (fun r _ => r = .bool (decide (IsTch l))) := by
  (refine callsV_of mix Tryz.func76 c_sl9Good ?_; simp only [↓vsd, vsn, gW, qd, qv, ev, pick, argE, zipE, ne_eq, eq_self, forall_const, implies_true, if_true, if_false, reduceIte, reduceCtorEq, Nat.reduceEqDiff, Nat.reduceAdd, Nat.reduceLT, ↓us_sl9Good, r_sl9Good])
  refine m_upto l.length (fun k vs w' => vs = [.int .i64 k] ∧ (∀ c ∈ l.take k, IsCall [c]) ∧ Ext w w') ⟨rfl, by simp, Ext.refl _⟩ ?_
  rintro k vs w1 hk ⟨rfl, hc, hx⟩
  by_cases hlt : k < l.length
  · have hltI : (k : Int) < l.length := by omega
    have hltJ : ¬ (l.length : Int) ≤ k := by omega
    have h1 := sub_one l k hlt
    simp only [↓vsd, vsn, gW, qd, qv, ev, pick, argE, zipE, ne_eq, eq_self, forall_const, implies_true, if_true, if_false, reduceIte, reduceCtorEq, Nat.reduceEqDiff, Nat.reduceAdd, Nat.reduceLT, ↓us_sl9Good, r_sl9Good, hltI, hltJ]
    rw [h1]
    refine ⟨inR_i64 (by omega), by omega, m_call (sl8Call_okc _ _) ?_⟩
    rintro _ w2 hx2 rfl
    have hx12 : Ext w w2 := by first | exact hx.trans hx2 | exact hx.trans (ud hx2)
    simp only [↓vsd, vsn, gW, qd, qv, ev, pick, argE, zipE, ne_eq, eq_self, forall_const, implies_true, if_true, if_false, reduceIte, reduceCtorEq, Nat.reduceEqDiff, Nat.reduceAdd, Nat.reduceLT, ↓us_sl9Good, r_sl9Good]
    refine ⟨fun hno => ⟨hx12, ?_⟩, fun hyes => ⟨inR_i64 (by omega), UpTo.next hlt ⟨rfl, fun c hm => ?_, hx12⟩⟩⟩
    · rw [decide_eq_false fun hh : IsTch l => hno (hh.2 _ (getD_mem 0 hlt))]
    · rcases mem_take (d := 0) hlt hm with h | rfl
      · exact hc c h
      · exact hyes
  · obtain rfl : k = l.length := by omega
    have hltI : ¬ (l.length : Int) < l.length := by omega
    simp only [↓vsd, vsn, gW, qd, qv, ev, pick, argE, zipE, ne_eq, eq_self, forall_const, implies_true, if_true, if_false, reduceIte, reduceCtorEq, Nat.reduceEqDiff, Nat.reduceAdd, Nat.reduceLT, ↓us_sl9Good, r_sl9Good, hltI]
    rw [List.take_length] at hc
    refine m_call (sl1In_ok _ _ _ _) ?_
    rintro _ w2 hx2 rfl
    simp only [↓vsd, vsn, gW, qd, qv, ev, pick, argE, zipE, ne_eq, eq_self, forall_const, implies_true, if_true, if_false, reduceIte, reduceCtorEq, Nat.reduceEqDiff, Nat.reduceAdd, Nat.reduceLT, ↓us_sl9Good, r_sl9Good]
    refine ⟨hx.trans hx2, ?_⟩
    rw [← Bool.decide_and]
    congr 1
    exact propext ⟨fun h => ⟨by omega, hc⟩, fun h => by have := h.1; omega⟩
theorem sl9Asked_ok (nm : List UInt8) (st : Int) (v : Value) (cs : List (List UInt8)) (b s t : List UInt8) (hnm : nm.length ≤ 1048576) (hs : ∀ c ∈ cs, c.length ≤ 1048576) (hl : cs.length ≤ 1000000000) (hb : b.length ≤ 1048576 ∧ s.length ≤ 1048576) (ht : t.length ≤ 1000000000) (w : World) (h : Sq fS 1 w v cs) : Fn 48 [mV nm st v, kV b s, S t] w (fun r _ => r = .bool (decide (IsMC nm st cs b s ∧ IsTch t))) := by
  (refine callsV_of mix Tryz.func48 c_sl9Asked ?_; simp only [↓vsd, vsn, gW, qd, qv, ev, pick, argE, zipE, ne_eq, eq_self, forall_const, implies_true, if_true, if_false, reduceIte, reduceCtorEq, Nat.reduceEqDiff, Nat.reduceAdd, Nat.reduceLT, ↓us_sl9Asked, r_sl9Asked])
  refine m_al ?_
  rintro b1 w1 hb1 hblk1 hx1 hs1
  have h1 : Blk w1 b1 (fM nm st v) 25 := hblk1
  simp only [↓vsd, vsn, gW, qd, qv, ev, pick, argE, zipE, ne_eq, eq_self, forall_const, implies_true, if_true, if_false, reduceIte, reduceCtorEq, Nat.reduceEqDiff, Nat.reduceAdd, Nat.reduceLT, ↓us_sl9Asked, r_sl9Asked, h1.facts, fMg]
  refine m_al ?_
  rintro b2 w2 hb2 hblk2 hx2 hs2
  have h2 : Blk w2 b2 (fQ b s) 27 := hblk2
  have h12 := h1.ext hx2
  have hx12 := hx1.trans hx2
  simp only [↓vsd, vsn, gW, qd, qv, ev, pick, argE, zipE, ne_eq, eq_self, forall_const, implies_true, if_true, if_false, reduceIte, reduceCtorEq, Nat.reduceEqDiff, Nat.reduceAdd, Nat.reduceLT, ↓us_sl9Asked, r_sl9Asked, h12.facts, h2.facts, fMg, fQg]
  refine m_call (sl8Good_ok nm st v cs b s hnm hs hl hb _ (h.ext hx12)) ?_
  rintro _ w3 hx3 rfl
  simp only [↓vsd, vsn, gW, qd, qv, ev, pick, argE, zipE, ne_eq, eq_self, forall_const, implies_true, if_true, if_false, reduceIte, reduceCtorEq, Nat.reduceEqDiff, Nat.reduceAdd, Nat.reduceLT, ↓us_sl9Asked, r_sl9Asked]
  refine ⟨fun hm => m_call (sl9Good_okt t ht _) ?_, fun hm => ⟨hx12.trans hx3, by simp [hm]⟩⟩
  rintro _ w4 hx4 rfl
  simp only [↓vsd, vsn, gW, qd, qv, ev, pick, argE, zipE, ne_eq, eq_self, forall_const, implies_true, if_true, if_false, reduceIte, reduceCtorEq, Nat.reduceEqDiff, Nat.reduceAdd, Nat.reduceLT, ↓us_sl9Asked, r_sl9Asked]
  exact ⟨(hx12.trans hx3).trans hx4, by simp [hm]⟩
end Go.Proofs.YthopbkemkfjebaaGreat
