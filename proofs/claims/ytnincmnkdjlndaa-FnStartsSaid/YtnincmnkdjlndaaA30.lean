/-
  Valid touches, of both sides.
  Conditions: none.
-/
import Derived.Test.YtnincmnkdjlndaaA17
set_option linter.unusedSimpArgs false
set_option linter.unusedVariables false
set_option linter.defProp false
namespace Go.Proofs.Ytnincmnkdjlndaa
open Go Go.RowKit
section
variable (P : Program) (k : KT) (e : Env) (w : World)
abbrev b288_1 : X := (.cond (.t 15) (.seq (.reg [2] (.c (.q 2 [] (.mv (.c (.bool false)))) .nil)) .ret) .skip)
def t288_1 := b288_1
theorem u288_1 : vcK P t288_1 k e w = vcK P b288_1 k e w := rfl
abbrev b288_2 : X := (.seq (.reg [0, 5, 6, 15] (.c (.q 9 [] (.mv (.t 0))) (.c (.q 10 [] (.mv (.t 3))) (.c (.q 11 [] (.mv (.t 3))) (.c (.q 12 [] (.bin .add (.t 11) (.c (.int .i64 1)))) (.c (.q 13 [] (.sub (.t 9) (some (.t 10)) (some (.t 12)))) (.c (.e (some 14) [] (.call false 323 [(.t 13)])) (.c (.q 15 [] (.not (.t 14))) .nil)))))))) t288_1)
def t288_2 := b288_2
theorem u288_2 : vcK P t288_2 k e w = vcK P b288_2 k e w := rfl
abbrev b288_3 : X := (.reg [0, 5, 6] (.c (.q 16 [] (.bin .add (.t 6) (.c (.int .i64 1)))) (.c (.q 6 [] (.mv (.t 16))) .nil)))
def t288_3 := b288_3
theorem u288_3 : vcK P t288_3 k e w = vcK P b288_3 k e w := rfl
abbrev b288_4 : X := (.seq (.blk 1 (.seq (.reg [0, 3, 5, 6] (.c (.q 8 [] (.mv (.t 6))) (.c (.q 3 [] (.mv (.t 8))) .nil))) t288_2)) t288_3)
def t288_4 := b288_4
theorem u288_4 : vcK P t288_4 k e w = vcK P b288_4 k e w := rfl
abbrev b288_5 : X := (.seq (.cond (.t 7) .skip (.exit 0)) t288_4)
def t288_5 := b288_5
theorem u288_5 : vcK P t288_5 k e w = vcK P b288_5 k e w := rfl
abbrev b288_6 : X := (.seq (.reg [0, 5, 6, 7] (.c (.q 7 [] (.bin .lss (.t 6) (.t 5))) .nil)) t288_5)
def t288_6 := b288_6
theorem u288_6 : vcK P t288_6 k e w = vcK P b288_6 k e w := rfl
abbrev b288_7 : X := (.blk 0 (.loop [6] [0, 5] t288_6))
def t288_7 := b288_7
theorem u288_7 : vcK P t288_7 k e w = vcK P b288_7 k e w := rfl
abbrev b288_8 : X := (.seq (.reg [2] (.c (.q 2 [] (.mv (.c (.bool true)))) .nil)) .ret)
def t288_8 := b288_8
theorem u288_8 : vcK P t288_8 k e w = vcK P b288_8 k e w := rfl
abbrev b288_9 : X := (.seq (.seq (.reg [0, 5, 6] (.c (.q 4 [] (.mv (.t 0))) (.c (.q 5 [] (.len (.t 4))) (.c (.q 6 [] (.mv (.c (.int .i64 0)))) .nil)))) t288_7) t288_8)
def t288_9 := b288_9
theorem u288_9 : vcK P t288_9 k e w = vcK P b288_9 k e w := rfl
abbrev b288_0 : X := (.seq (.reg [0] (.c (.q 2 [] (.mv (.c (.bool false)))) .nil)) t288_9)
def x_iareCalls := b288_0
theorem u288_0 : vcK P x_iareCalls k e w = vcK P b288_0 k e w := rfl
def r_iareCalls : List XO := [(.mv (.t 2))]
theorem c_iareCalls : convF Try.prog [147, 148, 152, 160, 162, 163, 170, 178, 206, 208, 210, 224, 233, 235, 236, 251, 264, 265, 268, 270, 287, 322] Try.f288 [([0], []), ([0, 5, 6], []), ([6], [0, 5]), ([0, 5, 6, 7], []), ([0, 3, 5, 6], []), ([0, 5, 6, 15], []), ([2], []), ([0, 5, 6], []), ([2], [])] = some (x_iareCalls, r_iareCalls) := by kernel_rfl
def us_iareCalls :=  (aI (aI (aI @u288_0 @u288_1) (aI @u288_2 (aI @u288_3 @u288_4))) (aI (aI @u288_5 @u288_6) (aI @u288_7 (aI @u288_8 @u288_9))))
abbrev b218_1 : X := (.seq (.reg [2] (.c (.q 3 [] (.mv (.t 0))) (.c (.q 4 [] (.len (.t 3))) (.c (.q 5 [] (.bin .geq (.t 4) (.c (.int .i64 1)))) (.c (.q 6 [] (.mv (.t 5))) (.c (.q 7 [(6, true)] (.mv (.t 0))) (.c (.q 8 [(6, true)] (.len (.t 7))) (.c (.q 9 [(6, true)] (.bin .leq (.t 8) (.c (.int .i64 60)))) (.c (.q 10 [] (.pick (.t 6) (.t 9) (.c (.bool false)))) (.c (.q 11 [] (.mv (.t 10))) (.c (.q 12 [(11, true)] (.mv (.t 0))) (.c (.e (some 13) [(11, true)] (.call false 288 [(.t 12)])) (.c (.q 14 [] (.pick (.t 11) (.t 13) (.c (.bool false)))) (.c (.q 2 [] (.mv (.t 14))) .nil)))))))))))))) .ret)
def t218_1 := b218_1
theorem u218_1 : vcK P t218_1 k e w = vcK P b218_1 k e w := rfl
abbrev b218_0 : X := (.seq (.reg [0] (.c (.q 2 [] (.mv (.c (.bool false)))) .nil)) t218_1)
def x_iGoodTouch := b218_0
theorem u218_0 : vcK P x_iGoodTouch k e w = vcK P b218_0 k e w := rfl
def r_iGoodTouch : List XO := [(.mv (.t 2))]
theorem c_iGoodTouch : convF Try.prog [147, 148, 152, 160, 162, 163, 170, 178, 206, 208, 210, 224, 233, 235, 236, 251, 264, 265, 268, 270, 287, 322] Try.f218 [([0], []), ([2], [])] = some (x_iGoodTouch, r_iGoodTouch) := by kernel_rfl
def us_iGoodTouch :=  (aI @u218_0 @u218_1)
abbrev b220_1 : X := (.cond (.t 7) .skip (.exit 0))
def t220_1 := b220_1
theorem u220_1 : vcK P t220_1 k e w = vcK P b220_1 k e w := rfl
abbrev b220_2 : X := (.cond (.t 16) (.seq (.reg [2] (.c (.q 2 [] (.mv (.c (.bool false)))) .nil)) .ret) .skip)
def t220_2 := b220_2
theorem u220_2 : vcK P t220_2 k e w = vcK P b220_2 k e w := rfl
abbrev b220_3 : X := (.reg [0, 3] (.c (.q 8 [] (.mv (.t 3))) (.c (.q 9 [] (.bin .add (.t 8) (.c (.int .i64 1)))) (.c (.q 3 [] (.mv (.t 9))) .nil))))
def t220_3 := b220_3
theorem u220_3 : vcK P t220_3 k e w = vcK P b220_3 k e w := rfl
abbrev b220_4 : X := (.seq (.blk 1 (.seq (.reg [0, 3, 16] (.c (.q 10 [] (.mv (.t 0))) (.c (.q 11 [] (.mv (.t 3))) (.c (.q 12 [] (.mv (.t 3))) (.c (.q 13 [] (.bin .add (.t 12) (.c (.int .i64 1)))) (.c (.q 14 [] (.sub (.t 10) (some (.t 11)) (some (.t 13)))) (.c (.e (some 15) [] (.call false 290 [(.t 14)])) (.c (.q 16 [] (.not (.t 15))) .nil)))))))) t220_2)) t220_3)
def t220_4 := b220_4
theorem u220_4 : vcK P t220_4 k e w = vcK P b220_4 k e w := rfl
abbrev b220_5 : X := (.seq (.seq (.reg [0, 3, 7] (.c (.q 4 [] (.mv (.t 3))) (.c (.q 5 [] (.mv (.t 0))) (.c (.q 6 [] (.len (.t 5))) (.c (.q 7 [] (.bin .lss (.t 4) (.t 6))) .nil))))) t220_1) t220_4)
def t220_5 := b220_5
theorem u220_5 : vcK P t220_5 k e w = vcK P b220_5 k e w := rfl
abbrev b220_6 : X := (.blk 0 (.loop [3] [0] t220_5))
def t220_6 := b220_6
theorem u220_6 : vcK P t220_6 k e w = vcK P b220_6 k e w := rfl
abbrev b220_7 : X := (.seq (.reg [2] (.c (.q 17 [] (.mv (.t 0))) (.c (.q 18 [] (.len (.t 17))) (.c (.e (some 19) [] (.call false 149 [(.t 18), (.c (.int .i64 1)), (.c (.int .i64 60))])) (.c (.q 2 [] (.mv (.t 19))) .nil))))) .ret)
def t220_7 := b220_7
theorem u220_7 : vcK P t220_7 k e w = vcK P b220_7 k e w := rfl
abbrev b220_8 : X := (.seq (.seq (.reg [0, 3] (.c (.q 3 [] (.mv (.c (.int .i64 0)))) .nil)) t220_6) t220_7)
def t220_8 := b220_8
theorem u220_8 : vcK P t220_8 k e w = vcK P b220_8 k e w := rfl
abbrev b220_0 : X := (.seq (.reg [0] (.c (.q 2 [] (.mv (.c (.bool false)))) .nil)) t220_8)
def x_sl9Good := b220_0
theorem u220_0 : vcK P x_sl9Good k e w = vcK P b220_0 k e w := rfl
def r_sl9Good : List XO := [(.mv (.t 2))]
theorem c_sl9Good : convF Try.prog [147, 148, 152, 160, 162, 163, 170, 178, 206, 208, 210, 224, 233, 235, 236, 251, 264, 265, 268, 270, 287, 322] Try.f220 [([0], []), ([0, 3], []), ([3], [0]), ([0, 3, 7], []), ([0, 3, 16], []), ([2], []), ([0, 3], []), ([2], [])] = some (x_sl9Good, r_sl9Good) := by kernel_rfl
def us_sl9Good :=  (aI (aI (aI @u220_0 @u220_1) (aI @u220_2 @u220_3)) (aI (aI @u220_4 @u220_5) (aI @u220_6 (aI @u220_7 @u220_8))))
end

/-- A touch. -/
def IsTch (l : List UInt8) : Prop := (1 ≤ l.length ∧ l.length ≤ 60) ∧ ∀ c ∈ l, IsCall [c]
instance (l : List UInt8) : Decidable (IsTch l) := by unfold IsTch; infer_instance
theorem tch_low {l : List UInt8} (h : IsTch l) : ∀ c ∈ l, c.toNat < 128 := fun c hc => by
  rcases h.2 c hc with h | h | h <;> (simp only [List.cons.injEq, and_true] at h; subst h; decide)
theorem map_take_suc {α β : Type} (f : α → β) (d : α) (l : List α) (k : Nat) (h : k < l.length) : (l.take (k + 1)).map f = (l.take k).map f ++ [f (l.getD k d)] := by
  rw [List.take_add_one, List.getElem?_eq_getElem h, List.getD_eq_getElem?_getD, List.getElem?_eq_getElem h, List.map_append]
  rfl
theorem iareCalls_okt (l : List UInt8) (hl : l.length ≤ 1000000000) (w : World) : Fn 288 [S l] w (fun r _ => r = .bool (decide (∀ c ∈ l, IsCall [c]))) := by
  (refine callsV_of mix Try.func288 c_iareCalls ?_; simp only [↓vsd, vsn, gW, qd, qv, ev, pick, argE, zipE, ne_eq, eq_self, forall_const, implies_true, if_true, if_false, reduceIte, reduceCtorEq, Nat.reduceEqDiff, Nat.reduceAdd, Nat.reduceLT, ↓us_iareCalls, r_iareCalls])
  refine m_upto l.length (fun k vs w' => vs = [.int .i64 k] ∧ (∀ c ∈ l.take k, IsCall [c]) ∧ Ext w w') ⟨rfl, by simp, Ext.refl _⟩ ?_
  rintro k vs w1 hk ⟨rfl, hc, hx⟩
  by_cases hlt : k < l.length
  · have hltI : (k : Int) < l.length := by omega
    have hltJ : ¬ (l.length : Int) ≤ k := by omega
    have h1 := sub_one l k hlt
    simp only [↓vsd, vsn, gW, qd, qv, ev, pick, argE, zipE, ne_eq, eq_self, forall_const, implies_true, if_true, if_false, reduceIte, reduceCtorEq, Nat.reduceEqDiff, Nat.reduceAdd, Nat.reduceLT, ↓us_iareCalls, r_iareCalls, hltI, hltJ]
    rw [h1]
    refine ⟨inR_i64 (by omega), by omega, m_call (iisCall_okc _ _) ?_⟩
    rintro _ w2 hx2 rfl
    have hx12 : Ext w w2 := by first | exact hx.trans hx2 | exact hx.trans (ud hx2)
    simp only [↓vsd, vsn, gW, qd, qv, ev, pick, argE, zipE, ne_eq, eq_self, forall_const, implies_true, if_true, if_false, reduceIte, reduceCtorEq, Nat.reduceEqDiff, Nat.reduceAdd, Nat.reduceLT, ↓us_iareCalls, r_iareCalls]
    refine ⟨fun hno => ⟨hx12, ?_⟩, fun hyes => ⟨inR_i64 (by omega), UpTo.next hlt ⟨rfl, fun c hm => ?_, hx12⟩⟩⟩
    · rw [decide_eq_false fun hh => hno (hh _ (getD_mem 0 hlt))]
    · rcases mem_take (d := 0) hlt hm with h | rfl
      · exact hc c h
      · exact hyes
  · obtain rfl : k = l.length := by omega
    have hltI : ¬ (l.length : Int) < l.length := by omega
    simp only [↓vsd, vsn, gW, qd, qv, ev, pick, argE, zipE, ne_eq, eq_self, forall_const, implies_true, if_true, if_false, reduceIte, reduceCtorEq, Nat.reduceEqDiff, Nat.reduceAdd, Nat.reduceLT, ↓us_iareCalls, r_iareCalls, hltI]
    rw [List.take_length] at hc
    exact ⟨hx, by rw [decide_eq_true hc]⟩
theorem iGoodTouch_okt (l : List UInt8) (hl : l.length ≤ 1000000000) (w : World) : Fn 218 [S l] w (fun r _ => r = .bool (decide (IsTch l))) := by
  (refine callsV_of mix Try.func218 c_iGoodTouch ?_; simp only [↓vsd, vsn, gW, qd, qv, ev, pick, argE, zipE, ne_eq, eq_self, forall_const, implies_true, if_true, if_false, reduceIte, reduceCtorEq, Nat.reduceEqDiff, Nat.reduceAdd, Nat.reduceLT, ↓us_iGoodTouch, r_iGoodTouch])
  refine ⟨fun h => m_call (iareCalls_okt l hl _) ?_, fun h => ⟨Ext.refl _, ?_⟩⟩
  · rintro _ w1 hx1 rfl
    simp only [↓vsd, vsn, gW, qd, qv, ev, pick, argE, zipE, ne_eq, eq_self, forall_const, implies_true, if_true, if_false, reduceIte, reduceCtorEq, Nat.reduceEqDiff, Nat.reduceAdd, Nat.reduceLT, ↓us_iGoodTouch, r_iGoodTouch]
    refine ⟨hx1, ?_⟩
    simp only [← Bool.decide_and]
    congr 1
    exact propext ⟨fun h2 => ⟨by omega, h2.2⟩, fun h2 => ⟨by omega, h2.2⟩⟩
  · have : ¬ IsTch l := fun h2 => h (by have := h2.1; omega)
    simp only [this, decide_false]
theorem sl9Good_okt (l : List UInt8) (hl : l.length ≤ 1000000000) (w : World) : Fn 220 [S l] w (fun r _ => r = .bool (decide (IsTch l))) := by
  (refine callsV_of mix Try.func220 c_sl9Good ?_; simp only [↓vsd, vsn, gW, qd, qv, ev, pick, argE, zipE, ne_eq, eq_self, forall_const, implies_true, if_true, if_false, reduceIte, reduceCtorEq, Nat.reduceEqDiff, Nat.reduceAdd, Nat.reduceLT, ↓us_sl9Good, r_sl9Good])
  refine m_upto l.length (fun k vs w' => vs = [.int .i64 k] ∧ (∀ c ∈ l.take k, IsCall [c]) ∧ Ext w w') ⟨rfl, by simp, Ext.refl _⟩ ?_
  rintro k vs w1 hk ⟨rfl, hc, hx⟩
  by_cases hlt : k < l.length
  · have hltI : (k : Int) < l.length := by omega
    have hltJ : ¬ (l.length : Int) ≤ k := by omega
    have h1 := sub_one l k hlt
    simp only [↓vsd, vsn, gW, qd, qv, ev, pick, argE, zipE, ne_eq, eq_self, forall_const, implies_true, if_true, if_false, reduceIte, reduceCtorEq, Nat.reduceEqDiff, Nat.reduceAdd, Nat.reduceLT, ↓us_sl9Good, r_sl9Good, hltI, hltJ]
    rw [h1]
    refine ⟨inR_i64 (by omega), by omega, m_call (sl8Call_okc _ _) ?_⟩
    rintro _ w2 hx2 rfl
    have hx12 : Ext w w2 := by first | exact hx.trans hx2 | exact hx.trans (ud hx2)
    simp only [↓vsd, vsn, gW, qd, qv, ev, pick, argE, zipE, ne_eq, eq_self, forall_const, implies_true, if_true, if_false, reduceIte, reduceCtorEq, Nat.reduceEqDiff, Nat.reduceAdd, Nat.reduceLT, ↓us_sl9Good, r_sl9Good]
    refine ⟨fun hno => ⟨hx12, ?_⟩, fun hyes => ⟨inR_i64 (by omega), UpTo.next hlt ⟨rfl, fun c hm => ?_, hx12⟩⟩⟩
    · rw [decide_eq_false fun hh : IsTch l => hno (hh.2 _ (getD_mem 0 hlt))]
    · rcases mem_take (d := 0) hlt hm with h | rfl
      · exact hc c h
      · exact hyes
  · obtain rfl : k = l.length := by omega
    have hltI : ¬ (l.length : Int) < l.length := by omega
    simp only [↓vsd, vsn, gW, qd, qv, ev, pick, argE, zipE, ne_eq, eq_self, forall_const, implies_true, if_true, if_false, reduceIte, reduceCtorEq, Nat.reduceEqDiff, Nat.reduceAdd, Nat.reduceLT, ↓us_sl9Good, r_sl9Good, hltI]
    rw [List.take_length] at hc
    refine m_call (sl1In_ok _ _ _ _) ?_
    rintro _ w2 hx2 rfl
    simp only [↓vsd, vsn, gW, qd, qv, ev, pick, argE, zipE, ne_eq, eq_self, forall_const, implies_true, if_true, if_false, reduceIte, reduceCtorEq, Nat.reduceEqDiff, Nat.reduceAdd, Nat.reduceLT, ↓us_sl9Good, r_sl9Good]
    refine ⟨hx.trans hx2, ?_⟩
    rw [← Bool.decide_and]
    congr 1
    exact propext ⟨fun h => ⟨by omega, hc⟩, fun h => by have := h.1; omega⟩
end Go.Proofs.Ytnincmnkdjlndaa
