/-
  Valid touches, of both sides.
  Conditions: none.
-/
import Derived.Test.YtpnopboffalfnaaA17
set_option linter.unusedSimpArgs false
set_option linter.unusedVariables false
set_option linter.defProp false
namespace Go.Proofs.Ytpnopboffalfnaa
open Go Go.RowKit
section
variable (P : Program) (k : KT) (e : Env) (w : World)
abbrev b217_1 : X := (.cond (.t 15) (.seq (.reg [2] (.c (.q 2 [] (.mv (.c (.bool false)))) .nil)) .ret) .skip)
def t217_1 := b217_1
theorem u217_1 : vcK P t217_1 k e w = vcK P b217_1 k e w := rfl
abbrev b217_2 : X := (.seq (.reg [0, 5, 6, 15] (.c (.q 9 [] (.mv (.t 0))) (.c (.q 10 [] (.mv (.t 3))) (.c (.q 11 [] (.mv (.t 3))) (.c (.q 12 [] (.bin .add (.t 11) (.c (.int .i64 1)))) (.c (.q 13 [] (.sub (.t 9) (some (.t 10)) (some (.t 12)))) (.c (.e (some 14) [] (.call false 245 [(.t 13)])) (.c (.q 15 [] (.not (.t 14))) .nil)))))))) t217_1)
def t217_2 := b217_2
theorem u217_2 : vcK P t217_2 k e w = vcK P b217_2 k e w := rfl
abbrev b217_3 : X := (.reg [0, 5, 6] (.c (.q 16 [] (.bin .add (.t 6) (.c (.int .i64 1)))) (.c (.q 6 [] (.mv (.t 16))) .nil)))
def t217_3 := b217_3
theorem u217_3 : vcK P t217_3 k e w = vcK P b217_3 k e w := rfl
abbrev b217_4 : X := (.seq (.blk 1 (.seq (.reg [0, 3, 5, 6] (.c (.q 8 [] (.mv (.t 6))) (.c (.q 3 [] (.mv (.t 8))) .nil))) t217_2)) t217_3)
def t217_4 := b217_4
theorem u217_4 : vcK P t217_4 k e w = vcK P b217_4 k e w := rfl
abbrev b217_5 : X := (.seq (.cond (.t 7) .skip (.exit 0)) t217_4)
def t217_5 := b217_5
theorem u217_5 : vcK P t217_5 k e w = vcK P b217_5 k e w := rfl
abbrev b217_6 : X := (.seq (.reg [0, 5, 6, 7] (.c (.q 7 [] (.bin .lss (.t 6) (.t 5))) .nil)) t217_5)
def t217_6 := b217_6
theorem u217_6 : vcK P t217_6 k e w = vcK P b217_6 k e w := rfl
abbrev b217_7 : X := (.blk 0 (.loop [6] [0, 5] t217_6))
def t217_7 := b217_7
theorem u217_7 : vcK P t217_7 k e w = vcK P b217_7 k e w := rfl
abbrev b217_8 : X := (.seq (.reg [2] (.c (.q 2 [] (.mv (.c (.bool true)))) .nil)) .ret)
def t217_8 := b217_8
theorem u217_8 : vcK P t217_8 k e w = vcK P b217_8 k e w := rfl
abbrev b217_9 : X := (.seq (.seq (.reg [0, 5, 6] (.c (.q 4 [] (.mv (.t 0))) (.c (.q 5 [] (.len (.t 4))) (.c (.q 6 [] (.mv (.c (.int .i64 0)))) .nil)))) t217_7) t217_8)
def t217_9 := b217_9
theorem u217_9 : vcK P t217_9 k e w = vcK P b217_9 k e w := rfl
abbrev b217_0 : X := (.seq (.reg [0] (.c (.q 2 [] (.mv (.c (.bool false)))) .nil)) t217_9)
def x_iareCalls := b217_0
theorem u217_0 : vcK P x_iareCalls k e w = vcK P b217_0 k e w := rfl
def r_iareCalls : List XO := [(.mv (.t 2))]
theorem c_iareCalls : convF Try.prog [169, 170, 207, 208, 210, 227, 232, 233, 255, 259, 268, 269, 270, 280, 281, 296, 299, 306, 307, 309] Try.f217 [([0], []), ([0, 5, 6], []), ([6], [0, 5]), ([0, 5, 6, 7], []), ([0, 3, 5, 6], []), ([0, 5, 6, 15], []), ([2], []), ([0, 5, 6], []), ([2], [])] = some (x_iareCalls, r_iareCalls) := by kernel_rfl
def us_iareCalls := aI @u217_0 (aI @u217_1 (aI @u217_2 (aI @u217_3 (aI @u217_4 (aI @u217_5 (aI @u217_6 (aI @u217_7 (aI @u217_8 @u217_9))))))))
abbrev b82_1 : X := (.seq (.reg [2] (.c (.q 3 [] (.mv (.t 0))) (.c (.q 4 [] (.len (.t 3))) (.c (.q 5 [] (.bin .geq (.t 4) (.c (.int .i64 1)))) (.c (.q 6 [] (.mv (.t 5))) (.c (.q 7 [(6, true)] (.mv (.t 0))) (.c (.q 8 [(6, true)] (.len (.t 7))) (.c (.q 9 [(6, true)] (.bin .leq (.t 8) (.c (.int .i64 60)))) (.c (.q 10 [] (.pick (.t 6) (.t 9) (.c (.bool false)))) (.c (.q 11 [] (.mv (.t 10))) (.c (.q 12 [(11, true)] (.mv (.t 0))) (.c (.e (some 13) [(11, true)] (.call false 217 [(.t 12)])) (.c (.q 14 [] (.pick (.t 11) (.t 13) (.c (.bool false)))) (.c (.q 2 [] (.mv (.t 14))) .nil)))))))))))))) .ret)
def t82_1 := b82_1
theorem u82_1 : vcK P t82_1 k e w = vcK P b82_1 k e w := rfl
abbrev b82_0 : X := (.seq (.reg [0] (.c (.q 2 [] (.mv (.c (.bool false)))) .nil)) t82_1)
def x_iGoodTouch := b82_0
theorem u82_0 : vcK P x_iGoodTouch k e w = vcK P b82_0 k e w := rfl
def r_iGoodTouch : List XO := [(.mv (.t 2))]
theorem c_iGoodTouch : convF Try.prog [169, 170, 207, 208, 210, 227, 232, 233, 255, 259, 268, 269, 270, 280, 281, 296, 299, 306, 307, 309] Try.f82 [([0], []), ([2], [])] = some (x_iGoodTouch, r_iGoodTouch) := by kernel_rfl
def us_iGoodTouch := aI @u82_0 @u82_1
abbrev b161_1 : X := (.seq (.reg [6] (.c (.q 7 [] (.lda 3 (.t 3))) (.c (.q 8 [] (.lda 2 (.t 4))) (.c (.e (some 9) [] (.call false 131 [(.t 7), (.t 8)])) (.c (.q 10 [] (.mv (.t 9))) (.c (.q 11 [(10, true)] (.mv (.t 2))) (.c (.e (some 12) [(10, true)] (.call false 82 [(.t 11)])) (.c (.q 13 [] (.pick (.t 10) (.t 12) (.c (.bool false)))) (.c (.q 6 [] (.mv (.t 13))) .nil))))))))) .ret)
def t161_1 := b161_1
theorem u161_1 : vcK P t161_1 k e w = vcK P b161_1 k e w := rfl
abbrev b161_0 : X := (.seq (.reg [2, 3, 4] (.c (.e (some 3) [] (.box 41 (.t 0))) (.c (.e (some 4) [] (.box 32 (.t 1))) (.c (.q 6 [] (.mv (.c (.bool false)))) .nil)))) t161_1)
def x_igoodFor := b161_0
theorem u161_0 : vcK P x_igoodFor k e w = vcK P b161_0 k e w := rfl
def r_igoodFor : List XO := [(.mv (.t 6))]
theorem c_igoodFor : convF Try.prog [169, 170, 207, 208, 210, 227, 232, 233, 255, 259, 268, 269, 270, 280, 281, 296, 299, 306, 307, 309] Try.f161 [([2, 3, 4], []), ([6], [])] = some (x_igoodFor, r_igoodFor) := by kernel_rfl
def us_igoodFor := aI @u161_0 @u161_1
abbrev b218_1 : X := (.cond (.t 7) .skip (.exit 0))
def t218_1 := b218_1
theorem u218_1 : vcK P t218_1 k e w = vcK P b218_1 k e w := rfl
abbrev b218_2 : X := (.cond (.t 16) (.seq (.reg [2] (.c (.q 2 [] (.mv (.c (.bool false)))) .nil)) .ret) .skip)
def t218_2 := b218_2
theorem u218_2 : vcK P t218_2 k e w = vcK P b218_2 k e w := rfl
abbrev b218_3 : X := (.reg [0, 3] (.c (.q 8 [] (.mv (.t 3))) (.c (.q 9 [] (.bin .add (.t 8) (.c (.int .i64 1)))) (.c (.q 3 [] (.mv (.t 9))) .nil))))
def t218_3 := b218_3
theorem u218_3 : vcK P t218_3 k e w = vcK P b218_3 k e w := rfl
abbrev b218_4 : X := (.seq (.blk 1 (.seq (.reg [0, 3, 16] (.c (.q 10 [] (.mv (.t 0))) (.c (.q 11 [] (.mv (.t 3))) (.c (.q 12 [] (.mv (.t 3))) (.c (.q 13 [] (.bin .add (.t 12) (.c (.int .i64 1)))) (.c (.q 14 [] (.sub (.t 10) (some (.t 11)) (some (.t 13)))) (.c (.e (some 15) [] (.call false 256 [(.t 14)])) (.c (.q 16 [] (.not (.t 15))) .nil)))))))) t218_2)) t218_3)
def t218_4 := b218_4
theorem u218_4 : vcK P t218_4 k e w = vcK P b218_4 k e w := rfl
abbrev b218_5 : X := (.seq (.seq (.reg [0, 3, 7] (.c (.q 4 [] (.mv (.t 3))) (.c (.q 5 [] (.mv (.t 0))) (.c (.q 6 [] (.len (.t 5))) (.c (.q 7 [] (.bin .lss (.t 4) (.t 6))) .nil))))) t218_1) t218_4)
def t218_5 := b218_5
theorem u218_5 : vcK P t218_5 k e w = vcK P b218_5 k e w := rfl
abbrev b218_6 : X := (.blk 0 (.loop [3] [0] t218_5))
def t218_6 := b218_6
theorem u218_6 : vcK P t218_6 k e w = vcK P b218_6 k e w := rfl
abbrev b218_7 : X := (.seq (.reg [2] (.c (.q 17 [] (.mv (.t 0))) (.c (.q 18 [] (.len (.t 17))) (.c (.e (some 19) [] (.call false 173 [(.t 18), (.c (.int .i64 1)), (.c (.int .i64 60))])) (.c (.q 2 [] (.mv (.t 19))) .nil))))) .ret)
def t218_7 := b218_7
theorem u218_7 : vcK P t218_7 k e w = vcK P b218_7 k e w := rfl
abbrev b218_8 : X := (.seq (.seq (.reg [0, 3] (.c (.q 3 [] (.mv (.c (.int .i64 0)))) .nil)) t218_6) t218_7)
def t218_8 := b218_8
theorem u218_8 : vcK P t218_8 k e w = vcK P b218_8 k e w := rfl
abbrev b218_0 : X := (.seq (.reg [0] (.c (.q 2 [] (.mv (.c (.bool false)))) .nil)) t218_8)
def x_sl9Good := b218_0
theorem u218_0 : vcK P x_sl9Good k e w = vcK P b218_0 k e w := rfl
def r_sl9Good : List XO := [(.mv (.t 2))]
theorem c_sl9Good : convF Try.prog [169, 170, 207, 208, 210, 227, 232, 233, 255, 259, 268, 269, 270, 280, 281, 296, 299, 306, 307, 309] Try.f218 [([0], []), ([0, 3], []), ([3], [0]), ([0, 3, 7], []), ([0, 3, 16], []), ([2], []), ([0, 3], []), ([2], [])] = some (x_sl9Good, r_sl9Good) := by kernel_rfl
def us_sl9Good := aI @u218_0 (aI @u218_1 (aI @u218_2 (aI @u218_3 (aI @u218_4 (aI @u218_5 (aI @u218_6 (aI @u218_7 @u218_8)))))))
abbrev b163_1 : X := (.seq (.reg [6] (.c (.q 7 [] (.lda 3 (.t 3))) (.c (.q 8 [] (.lda 2 (.t 4))) (.c (.e (some 9) [] (.call false 253 [(.t 7), (.t 8)])) (.c (.q 10 [] (.mv (.t 9))) (.c (.q 11 [(10, true)] (.mv (.t 2))) (.c (.e (some 12) [(10, true)] (.call false 218 [(.t 11)])) (.c (.q 13 [] (.pick (.t 10) (.t 12) (.c (.bool false)))) (.c (.q 6 [] (.mv (.t 13))) .nil))))))))) .ret)
def t163_1 := b163_1
theorem u163_1 : vcK P t163_1 k e w = vcK P b163_1 k e w := rfl
abbrev b163_0 : X := (.seq (.reg [2, 3, 4] (.c (.e (some 3) [] (.box 41 (.t 0))) (.c (.e (some 4) [] (.box 32 (.t 1))) (.c (.q 6 [] (.mv (.c (.bool false)))) .nil)))) t163_1)
def x_sl9Asked := b163_0
theorem u163_0 : vcK P x_sl9Asked k e w = vcK P b163_0 k e w := rfl
def r_sl9Asked : List XO := [(.mv (.t 6))]
theorem c_sl9Asked : convF Try.prog [169, 170, 207, 208, 210, 227, 232, 233, 255, 259, 268, 269, 270, 280, 281, 296, 299, 306, 307, 309] Try.f163 [([2, 3, 4], []), ([6], [])] = some (x_sl9Asked, r_sl9Asked) := by kernel_rfl
def us_sl9Asked := aI @u163_0 @u163_1
end

/-- A touch. -/
def IsTch (l : List UInt8) : Prop := (1 ≤ l.length ∧ l.length ≤ 60) ∧ ∀ c ∈ l, IsCall [c]
instance (l : List UInt8) : Decidable (IsTch l) := by unfold IsTch; infer_instance
theorem tch_low {l : List UInt8} (h : IsTch l) : ∀ c ∈ l, c.toNat < 128 := fun c hc => by
  rcases h.2 c hc with h | h | h <;> (simp only [List.cons.injEq, and_true] at h; subst h; decide)
theorem map_take_suc {α β : Type} (f : α → β) (d : α) (l : List α) (k : Nat) (h : k < l.length) : (l.take (k + 1)).map f = (l.take k).map f ++ [f (l.getD k d)] := by
  rw [List.take_add_one, List.getElem?_eq_getElem h, List.getD_eq_getElem?_getD, List.getElem?_eq_getElem h, List.map_append]
  rfl
theorem iareCalls_okt (l : List UInt8) (hl : l.length ≤ 1000000000) (w : World) : Fn 217 [S l] w (fun r _ => r = .bool (decide (∀ c ∈ l, IsCall [c]))) := by
  (refine callsV_of mix Try.func217 c_iareCalls ?_; simp only [↓vsd, vsn, gW, qd, qv, ev, pick, argE, zipE, ne_eq, eq_self, forall_const, implies_true, if_true, if_false, reduceIte, reduceCtorEq, Nat.reduceEqDiff, Nat.reduceAdd, Nat.reduceLT, ↓us_iareCalls, r_iareCalls])
  refine m_upto l.length (fun k vs w' => vs = [.int .i64 k] ∧ (∀ c ∈ l.take k, IsCall [c]) ∧ Ext w w') ⟨rfl, by simp, Ext.refl _⟩ ?_
  rintro k vs w1 hk ⟨rfl, hc, hx⟩
  by_cases hlt : k < l.length
  · have hltI : (k : Int) < l.length := by omega
    have hltJ : ¬ (l.length : Int) ≤ k := by omega
    have h1 := sub_one l k hlt
    simp only [↓vsd, vsn, gW, qd, qv, ev, pick, argE, zipE, ne_eq, eq_self, forall_const, implies_true, if_true, if_false, reduceIte, reduceCtorEq, Nat.reduceEqDiff, Nat.reduceAdd, Nat.reduceLT, ↓us_iareCalls, r_iareCalls, hltI, hltJ]
    rw [h1]
    refine ⟨inR_i64 (by omega), by omega, m_call (iisCall_okc _ _) ?_⟩
    rintro _ w2 hx2 rfl
    have hx12 : Ext w w2 := by first | exact hx.trans hx2 | exact hx.trans (ud hx2)
    simp only [↓vsd, vsn, gW, qd, qv, ev, pick, argE, zipE, ne_eq, eq_self, forall_const, implies_true, if_true, if_false, reduceIte, reduceCtorEq, Nat.reduceEqDiff, Nat.reduceAdd, Nat.reduceLT, ↓us_iareCalls, r_iareCalls]
    refine ⟨fun hno => ⟨hx12, ?_⟩, fun hyes => ⟨inR_i64 (by omega), UpTo.next hlt ⟨rfl, fun c hm => ?_, hx12⟩⟩⟩
    · rw [decide_eq_false fun hh => hno (hh _ (getD_mem 0 hlt))]
    · rcases mem_take (d := 0) hlt hm with h | rfl
      · exact hc c h
      · exact hyes
  · obtain rfl : k = l.length := by omega
    have hltI : ¬ (l.length : Int) < l.length := by omega
    simp only [↓vsd, vsn, gW, qd, qv, ev, pick, argE, zipE, ne_eq, eq_self, forall_const, implies_true, if_true, if_false, reduceIte, reduceCtorEq, Nat.reduceEqDiff, Nat.reduceAdd, Nat.reduceLT, ↓us_iareCalls, r_iareCalls, hltI]
    rw [List.take_length] at hc
    exact ⟨hx, by rw [decide_eq_true hc]⟩
theorem iGoodTouch_okt (l : List UInt8) (hl : l.length ≤ 1000000000) (w : World) : Fn 82 [S l] w (fun r _ => r = .bool (decide (IsTch l))) := by
  (refine callsV_of mix Try.func82 c_iGoodTouch ?_; simp only [↓vsd, vsn, gW, qd, qv, ev, pick, argE, zipE, ne_eq, eq_self, forall_const, implies_true, if_true, if_false, reduceIte, reduceCtorEq, Nat.reduceEqDiff, Nat.reduceAdd, Nat.reduceLT, ↓us_iGoodTouch, r_iGoodTouch])
  refine ⟨fun h => m_call (iareCalls_okt l hl _) ?_, fun h => ⟨Ext.refl _, ?_⟩⟩
  · rintro _ w1 hx1 rfl
    simp only [↓vsd, vsn, gW, qd, qv, ev, pick, argE, zipE, ne_eq, eq_self, forall_const, implies_true, if_true, if_false, reduceIte, reduceCtorEq, Nat.reduceEqDiff, Nat.reduceAdd, Nat.reduceLT, ↓us_iGoodTouch, r_iGoodTouch]
    refine ⟨hx1, ?_⟩
    simp only [← Bool.decide_and]
    congr 1
    exact propext ⟨fun h2 => ⟨by omega, h2.2⟩, fun h2 => ⟨by omega, h2.2⟩⟩
  · have : ¬ IsTch l := fun h2 => h (by have := h2.1; omega)
    simp only [this, decide_false]
theorem sl9Good_okt (l : List UInt8) (hl : l.length ≤ 1000000000) (w : World) : Fn 218 [S l] w (fun r _ => r = .bool (decide (IsTch l))) := by
  (refine callsV_of mix Try.func218 c_sl9Good ?_; simp only [↓vsd, vsn, gW, qd, qv, ev, pick, argE, zipE, ne_eq, eq_self, forall_const, implies_true, if_true, if_false, reduceIte, reduceCtorEq, Nat.reduceEqDiff, Nat.reduceAdd, Nat.reduceLT, ↓us_sl9Good, r_sl9Good])
  refine m_upto l.length (fun k vs w' => vs = [.int .i64 k] ∧ (∀ c ∈ l.take k, IsCall [c]) ∧ Ext w w') ⟨rfl, by simp, Ext.refl _⟩ ?_
  rintro k vs w1 hk ⟨rfl, hc, hx⟩
  by_cases hlt : k < l.length
  · have hltI : (k : Int) < l.length := by omega
    have hltJ : ¬ (l.length : Int) ≤ k := by omega
    have h1 := sub_one l k hlt
    simp only [↓vsd, vsn, gW, qd, qv, ev, pick, argE, zipE, ne_eq, eq_self, forall_const, implies_true, if_true, if_false, reduceIte, reduceCtorEq, Nat.reduceEqDiff, Nat.reduceAdd, Nat.reduceLT, ↓us_sl9Good, r_sl9Good, hltI, hltJ]
    rw [h1]
    refine ⟨inR_i64 (by omega), by omega, m_call (sl8Call_okc _ _) ?_⟩
    rintro _ w2 hx2 rfl
    have hx12 : Ext w w2 := by first | exact hx.trans hx2 | exact hx.trans (ud hx2)
    simp only [↓vsd, vsn, gW, qd, qv, ev, pick, argE, zipE, ne_eq, eq_self, forall_const, implies_true, if_true, if_false, reduceIte, reduceCtorEq, Nat.reduceEqDiff, Nat.reduceAdd, Nat.reduceLT, ↓us_sl9Good, r_sl9Good]
    refine ⟨fun hno => ⟨hx12, ?_⟩, fun hyes => ⟨inR_i64 (by omega), UpTo.next hlt ⟨rfl, fun c hm => ?_, hx12⟩⟩⟩
    · rw [decide_eq_false fun hh : IsTch l => hno (hh.2 _ (getD_mem 0 hlt))]
    · rcases mem_take (d := 0) hlt hm with h | rfl
      · exact hc c h
      · exact hyes
  · obtain rfl : k = l.length := by omega
    have hltI : ¬ (l.length : Int) < l.length := by omega
    simp only [↓vsd, vsn, gW, qd, qv, ev, pick, argE, zipE, ne_eq, eq_self, forall_const, implies_true, if_true, if_false, reduceIte, reduceCtorEq, Nat.reduceEqDiff, Nat.reduceAdd, Nat.reduceLT, ↓us_sl9Good, r_sl9Good, hltI]
    rw [List.take_length] at hc
    refine m_call (sl1In_ok _ _ _ _) ?_
    rintro _ w2 hx2 rfl
    simp only [↓vsd, vsn, gW, qd, qv, ev, pick, argE, zipE, ne_eq, eq_self, forall_const, implies_true, if_true, if_false, reduceIte, reduceCtorEq, Nat.reduceEqDiff, Nat.reduceAdd, Nat.reduceLT, ↓us_sl9Good, r_sl9Good]
    refine ⟨hx.trans hx2, ?_⟩
    rw [← Bool.decide_and]
    congr 1
    exact propext ⟨fun h => ⟨by omega, hc⟩, fun h => by have := h.1; omega⟩
theorem igoodFor_ok (nm : List UInt8) (st : Int) (v : Value) (cs : List (List UInt8)) (b s t : List UInt8) (hnm : nm.length ≤ 1048576) (hs : ∀ c ∈ cs, c.length ≤ 1048576) (hl : cs.length ≤ 1000000000) (hb : b.length ≤ 1048576 ∧ s.length ≤ 1048576) (ht : t.length ≤ 1000000000) (w : World) (h : Sq fS 1 w v cs) : Fn 161 [mV nm st v, kV b s, S t] w (fun r _ => r = .bool (decide (IsMC nm st cs b s ∧ IsTch t))) := by
  (refine callsV_of mix Try.func161 c_igoodFor ?_; simp only [↓vsd, vsn, gW, qd, qv, ev, pick, argE, zipE, ne_eq, eq_self, forall_const, implies_true, if_true, if_false, reduceIte, reduceCtorEq, Nat.reduceEqDiff, Nat.reduceAdd, Nat.reduceLT, ↓us_igoodFor, r_igoodFor])
  refine m_al ?_
  rintro b1 w1 hb1 hblk1 hx1 hs1
  have h1 : Blk w1 b1 (fM nm st v) 41 := hblk1
  simp only [↓vsd, vsn, gW, qd, qv, ev, pick, argE, zipE, ne_eq, eq_self, forall_const, implies_true, if_true, if_false, reduceIte, reduceCtorEq, Nat.reduceEqDiff, Nat.reduceAdd, Nat.reduceLT, ↓us_igoodFor, r_igoodFor, h1.facts, fMg]
  refine m_al ?_
  rintro b2 w2 hb2 hblk2 hx2 hs2
  have h2 : Blk w2 b2 (fQ b s) 32 := hblk2
  have h12 := h1.ext hx2
  have hx12 := hx1.trans hx2
  simp only [↓vsd, vsn, gW, qd, qv, ev, pick, argE, zipE, ne_eq, eq_self, forall_const, implies_true, if_true, if_false, reduceIte, reduceCtorEq, Nat.reduceEqDiff, Nat.reduceAdd, Nat.reduceLT, ↓us_igoodFor, r_igoodFor, h12.facts, h2.facts, fMg, fQg]
  refine m_call (iGoodCalls_ok nm st v cs b s hnm hs hl hb _ (h.ext hx12)) ?_
  rintro _ w3 hx3 rfl
  simp only [↓vsd, vsn, gW, qd, qv, ev, pick, argE, zipE, ne_eq, eq_self, forall_const, implies_true, if_true, if_false, reduceIte, reduceCtorEq, Nat.reduceEqDiff, Nat.reduceAdd, Nat.reduceLT, ↓us_igoodFor, r_igoodFor]
  refine ⟨fun hm => m_call (iGoodTouch_okt t ht _) ?_, fun hm => ⟨hx12.trans hx3, by simp [hm]⟩⟩
  rintro _ w4 hx4 rfl
  simp only [↓vsd, vsn, gW, qd, qv, ev, pick, argE, zipE, ne_eq, eq_self, forall_const, implies_true, if_true, if_false, reduceIte, reduceCtorEq, Nat.reduceEqDiff, Nat.reduceAdd, Nat.reduceLT, ↓us_igoodFor, r_igoodFor]
  exact ⟨(hx12.trans hx3).trans hx4, by simp [hm]⟩
theorem sl9Asked_ok (nm : List UInt8) (st : Int) (v : Value) (cs : List (List UInt8)) (b s t : List UInt8) (hnm : nm.length ≤ 1048576) (hs : ∀ c ∈ cs, c.length ≤ 1048576) (hl : cs.length ≤ 1000000000) (hb : b.length ≤ 1048576 ∧ s.length ≤ 1048576) (ht : t.length ≤ 1000000000) (w : World) (h : Sq fS 1 w v cs) : Fn 163 [mV nm st v, kV b s, S t] w (fun r _ => r = .bool (decide (IsMC nm st cs b s ∧ IsTch t))) := by
  (refine callsV_of mix Try.func163 c_sl9Asked ?_; simp only [↓vsd, vsn, gW, qd, qv, ev, pick, argE, zipE, ne_eq, eq_self, forall_const, implies_true, if_true, if_false, reduceIte, reduceCtorEq, Nat.reduceEqDiff, Nat.reduceAdd, Nat.reduceLT, ↓us_sl9Asked, r_sl9Asked])
  refine m_al ?_
  rintro b1 w1 hb1 hblk1 hx1 hs1
  have h1 : Blk w1 b1 (fM nm st v) 41 := hblk1
  simp only [↓vsd, vsn, gW, qd, qv, ev, pick, argE, zipE, ne_eq, eq_self, forall_const, implies_true, if_true, if_false, reduceIte, reduceCtorEq, Nat.reduceEqDiff, Nat.reduceAdd, Nat.reduceLT, ↓us_sl9Asked, r_sl9Asked, h1.facts, fMg]
  refine m_al ?_
  rintro b2 w2 hb2 hblk2 hx2 hs2
  have h2 : Blk w2 b2 (fQ b s) 32 := hblk2
  have h12 := h1.ext hx2
  have hx12 := hx1.trans hx2
  simp only [↓vsd, vsn, gW, qd, qv, ev, pick, argE, zipE, ne_eq, eq_self, forall_const, implies_true, if_true, if_false, reduceIte, reduceCtorEq, Nat.reduceEqDiff, Nat.reduceAdd, Nat.reduceLT, ↓us_sl9Asked, r_sl9Asked, h12.facts, h2.facts, fMg, fQg]
  refine m_call (sl8Good_ok nm st v cs b s hnm hs hl hb _ (h.ext hx12)) ?_
  rintro _ w3 hx3 rfl
  simp only [↓vsd, vsn, gW, qd, qv, ev, pick, argE, zipE, ne_eq, eq_self, forall_const, implies_true, if_true, if_false, reduceIte, reduceCtorEq, Nat.reduceEqDiff, Nat.reduceAdd, Nat.reduceLT, ↓us_sl9Asked, r_sl9Asked]
  refine ⟨fun hm => m_call (sl9Good_okt t ht _) ?_, fun hm => ⟨hx12.trans hx3, by simp [hm]⟩⟩
  rintro _ w4 hx4 rfl
  simp only [↓vsd, vsn, gW, qd, qv, ev, pick, argE, zipE, ne_eq, eq_self, forall_const, implies_true, if_true, if_false, reduceIte, reduceCtorEq, Nat.reduceEqDiff, Nat.reduceAdd, Nat.reduceLT, ↓us_sl9Asked, r_sl9Asked]
  exact ⟨(hx12.trans hx3).trans hx4, by simp [hm]⟩
end Go.Proofs.Ytpnopboffalfnaa
