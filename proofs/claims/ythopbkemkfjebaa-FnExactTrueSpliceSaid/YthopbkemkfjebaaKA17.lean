/-
  Calls: what a call does to a lead; a law's input of calls.
  Conditions: none.
-/
import Derived.Test.YthopbkemkfjebaaKA11
import Derived.Test.YthopbkemkfjebaaKVw
set_option linter.unusedSimpArgs false
set_option linter.unusedVariables false
set_option linter.defProp false
namespace Go.Proofs.Ythopbkemkfjebaa
open Go Go.RowKit
section
variable (P : Program) (k : KT) (e : Env) (w : World)
abbrev b210_1 : X := (.seq (.reg [2] (.c (.q 3 [] (.mv (.t 0))) (.c (.q 4 [] (.bin .eql (.t 3) (.s [112]))) (.c (.q 5 [] (.mv (.t 4))) (.c (.q 6 [(5, false)] (.mv (.t 0))) (.c (.q 7 [(5, false)] (.bin .eql (.t 6) (.s [98]))) (.c (.q 8 [] (.pick (.t 5) (.c (.bool true)) (.t 7))) (.c (.q 9 [] (.mv (.t 8))) (.c (.q 10 [(9, false)] (.mv (.t 0))) (.c (.q 11 [(9, false)] (.bin .eql (.t 10) (.s [115]))) (.c (.q 12 [] (.pick (.t 9) (.c (.bool true)) (.t 11))) (.c (.q 2 [] (.mv (.t 12))) .nil)))))))))))) .ret)
def t210_1 := b210_1
theorem u210_1 : vcK P t210_1 k e w = vcK P b210_1 k e w := rfl
abbrev b210_0 : X := (.seq (.reg [0] (.c (.q 2 [] (.mv (.c (.bool false)))) .nil)) t210_1)
def x_iisCall := b210_0
theorem u210_0 : vcK P x_iisCall k e w = vcK P b210_0 k e w := rfl
def r_iisCall : List XO := [(.mv (.t 2))]
theorem c_iisCall : convF Try.prog [54, 55, 58, 69, 70, 71, 72, 73, 84, 89, 94, 95, 113, 114, 115, 130, 134, 143, 146, 161] Try.f210 [([0], []), ([2], [])] = some (x_iisCall, r_iisCall) := by kernel_rfl
def us_iisCall :=  (aI @u210_0 @u210_1)
abbrev b182_1 : X := (.seq (.reg [2] (.c (.q 3 [] (.mv (.t 0))) (.c (.q 4 [] (.bin .eql (.t 3) (.s [112]))) (.c (.q 5 [] (.mv (.t 4))) (.c (.q 6 [(5, false)] (.mv (.t 0))) (.c (.q 7 [(5, false)] (.bin .eql (.t 6) (.s [98]))) (.c (.q 8 [] (.pick (.t 5) (.c (.bool true)) (.t 7))) (.c (.q 9 [] (.mv (.t 8))) (.c (.q 10 [(9, false)] (.mv (.t 0))) (.c (.q 11 [(9, false)] (.bin .eql (.t 10) (.s [115]))) (.c (.q 12 [] (.pick (.t 9) (.c (.bool true)) (.t 11))) (.c (.q 2 [] (.mv (.t 12))) .nil)))))))))))) .ret)
def t182_1 := b182_1
theorem u182_1 : vcK P t182_1 k e w = vcK P b182_1 k e w := rfl
abbrev b182_0 : X := (.seq (.reg [0] (.c (.q 2 [] (.mv (.c (.bool false)))) .nil)) t182_1)
def x_sl8Call := b182_0
theorem u182_0 : vcK P x_sl8Call k e w = vcK P b182_0 k e w := rfl
def r_sl8Call : List XO := [(.mv (.t 2))]
theorem c_sl8Call : convF Try.prog [54, 55, 58, 69, 70, 71, 72, 73, 84, 89, 94, 95, 113, 114, 115, 130, 134, 143, 146, 161] Try.f182 [([0], []), ([2], [])] = some (x_sl8Call, r_sl8Call) := by kernel_rfl
def us_sl8Call :=  (aI @u182_0 @u182_1)
abbrev b162_1 : X := (.seq (.reg [4] (.c (.q 5 [] (.lda 3 (.t 2))) (.c (.e (some 6) [] (.call false 186 [(.t 5)])) (.c (.q 7 [] (.mv (.t 6))) (.c (.q 8 [(7, true)] (.fa 1 (.t 2))) (.c (.q 9 [(7, true)] (.ld (.t 8))) (.c (.q 10 [(7, true)] (.fa 0 (.t 3))) (.c (.q 11 [(7, true)] (.ld (.t 10))) (.c (.e (some 12) [(7, true)] (.call false 31 [(.t 9), (.t 11)])) (.c (.q 13 [] (.pick (.t 7) (.t 12) (.c (.bool false)))) (.c (.q 14 [] (.mv (.t 13))) (.c (.q 15 [(14, true)] (.fa 1 (.t 2))) (.c (.q 16 [(14, true)] (.ld (.t 15))) (.c (.q 17 [(14, true)] (.fa 1 (.t 3))) (.c (.q 18 [(14, true)] (.ld (.t 17))) (.c (.e (some 19) [(14, true)] (.call false 31 [(.t 16), (.t 18)])) (.c (.q 20 [] (.pick (.t 14) (.t 19) (.c (.bool false)))) (.c (.q 4 [] (.mv (.t 20))) .nil)))))))))))))))))) .ret)
def t162_1 := b162_1
theorem u162_1 : vcK P t162_1 k e w = vcK P b162_1 k e w := rfl
abbrev b162_0 : X := (.seq (.reg [2, 3] (.c (.e (some 2) [] (.box 68 (.t 0))) (.c (.e (some 3) [] (.box 63 (.t 1))) (.c (.q 4 [] (.mv (.c (.bool false)))) .nil)))) t162_1)
def x_iGoodCalls := b162_0
theorem u162_0 : vcK P x_iGoodCalls k e w = vcK P b162_0 k e w := rfl
def r_iGoodCalls : List XO := [(.mv (.t 4))]
theorem c_iGoodCalls : convF Try.prog [54, 55, 58, 69, 70, 71, 72, 73, 84, 89, 94, 95, 113, 114, 115, 130, 134, 143, 146, 161] Try.f162 [([2, 3], []), ([4], [])] = some (x_iGoodCalls, r_iGoodCalls) := by kernel_rfl
def us_iGoodCalls :=  (aI @u162_0 @u162_1)
abbrev b163_1 : X := (.seq (.reg [4] (.c (.q 5 [] (.lda 3 (.t 2))) (.c (.e (some 6) [] (.call false 152 [(.t 5)])) (.c (.q 7 [] (.mv (.t 6))) (.c (.q 8 [(7, true)] (.fa 1 (.t 2))) (.c (.q 9 [(7, true)] (.ld (.t 8))) (.c (.q 10 [(7, true)] (.fa 0 (.t 3))) (.c (.q 11 [(7, true)] (.ld (.t 10))) (.c (.e (some 12) [(7, true)] (.call false 140 [(.t 9), (.t 11)])) (.c (.q 13 [] (.pick (.t 7) (.t 12) (.c (.bool false)))) (.c (.q 14 [] (.mv (.t 13))) (.c (.q 15 [(14, true)] (.fa 1 (.t 2))) (.c (.q 16 [(14, true)] (.ld (.t 15))) (.c (.q 17 [(14, true)] (.fa 1 (.t 3))) (.c (.q 18 [(14, true)] (.ld (.t 17))) (.c (.e (some 19) [(14, true)] (.call false 140 [(.t 16), (.t 18)])) (.c (.q 20 [] (.pick (.t 14) (.t 19) (.c (.bool false)))) (.c (.q 4 [] (.mv (.t 20))) .nil)))))))))))))))))) .ret)
def t163_1 := b163_1
theorem u163_1 : vcK P t163_1 k e w = vcK P b163_1 k e w := rfl
abbrev b163_0 : X := (.seq (.reg [2, 3] (.c (.e (some 2) [] (.box 68 (.t 0))) (.c (.e (some 3) [] (.box 63 (.t 1))) (.c (.q 4 [] (.mv (.c (.bool false)))) .nil)))) t163_1)
def x_sl8Good := b163_0
theorem u163_0 : vcK P x_sl8Good k e w = vcK P b163_0 k e w := rfl
def r_sl8Good : List XO := [(.mv (.t 4))]
theorem c_sl8Good : convF Try.prog [54, 55, 58, 69, 70, 71, 72, 73, 84, 89, 94, 95, 113, 114, 115, 130, 134, 143, 146, 161] Try.f163 [([2, 3], []), ([4], [])] = some (x_sl8Good, r_sl8Good) := by kernel_rfl
def us_sl8Good :=  (aI @u163_0 @u163_1)
abbrev b184_1 : X := (.cond (.t 12) (.seq (.reg [6] (.c (.q 14 [] (.fa 1 (.t 4))) (.c (.q 15 [] (.ld (.t 14))) (.c (.q 6 [] (.mv (.t 15))) .nil)))) .ret) .skip)
def t184_1 := b184_1
theorem u184_1 : vcK P t184_1 k e w = vcK P b184_1 k e w := rfl
abbrev b184_2 : X := (.cond (.t 8) (.seq (.reg [6] (.c (.q 10 [] (.fa 0 (.t 4))) (.c (.q 11 [] (.ld (.t 10))) (.c (.q 6 [] (.mv (.t 11))) .nil)))) .ret) (.seq (.reg [3, 4, 12] (.c (.q 13 [] (.bin .eql (.t 7) (.s [115]))) (.c (.q 12 [] (.mv (.t 13))) .nil))) t184_1))
def t184_2 := b184_2
theorem u184_2 : vcK P t184_2 k e w = vcK P b184_2 k e w := rfl
abbrev b184_3 : X := (.blk 0 (.seq (.reg [3, 4, 7, 8] (.c (.q 9 [] (.bin .eql (.t 7) (.s [98]))) (.c (.q 8 [] (.mv (.t 9))) .nil))) t184_2))
def t184_3 := b184_3
theorem u184_3 : vcK P t184_3 k e w = vcK P b184_3 k e w := rfl
abbrev b184_4 : X := (.seq (.reg [6] (.c (.q 16 [] (.fa 2 (.t 3))) (.c (.q 17 [] (.ld (.t 16))) (.c (.q 18 [] (.fa 2 (.t 3))) (.c (.q 19 [] (.ld (.t 18))) (.c (.q 20 [] (.lens (.t 19))) (.c (.q 21 [] (.bin .sub (.t 20) (.c (.int .i64 1)))) (.c (.q 22 [] (.ia 1 (.t 17) (.t 21))) (.c (.q 23 [] (.ld (.t 22))) (.c (.q 6 [] (.mv (.t 23))) .nil)))))))))) .ret)
def t184_4 := b184_4
theorem u184_4 : vcK P t184_4 k e w = vcK P b184_4 k e w := rfl
abbrev b184_5 : X := (.seq (.seq (.reg [3, 4, 7] (.c (.q 7 [] (.mv (.t 2))) .nil)) t184_3) t184_4)
def t184_5 := b184_5
theorem u184_5 : vcK P t184_5 k e w = vcK P b184_5 k e w := rfl
abbrev b184_0 : X := (.seq (.reg [2, 3, 4] (.c (.e (some 3) [] (.box 68 (.t 0))) (.c (.e (some 4) [] (.box 63 (.t 1))) (.c (.q 6 [] (.mv (.s []))) .nil)))) t184_5)
def x_sl8Change := b184_0
theorem u184_0 : vcK P x_sl8Change k e w = vcK P b184_0 k e w := rfl
def r_sl8Change : List XO := [(.mv (.t 6))]
theorem c_sl8Change : convF Try.prog [54, 55, 58, 69, 70, 71, 72, 73, 84, 89, 94, 95, 113, 114, 115, 130, 134, 143, 146, 161] Try.f184 [([2, 3, 4], []), ([3, 4, 7], []), ([3, 4, 7, 8], []), ([6], []), ([3, 4, 12], []), ([6], []), ([6], [])] = some (x_sl8Change, r_sl8Change) := by kernel_rfl
def us_sl8Change :=  (aI (aI @u184_0 (aI @u184_1 @u184_2)) (aI @u184_3 (aI @u184_4 @u184_5)))
abbrev b151_1 : X := (.seq (.reg [6] (.c (.q 25 [] (.mv (.t 9))) (.c (.q 26 [] (.lda 3 (.t 3))) (.c (.q 27 [] (.lda 2 (.t 4))) (.c (.q 28 [] (.mv (.t 2))) (.c (.e (some 29) [] (.call false 184 [(.t 26), (.t 27), (.t 28)])) (.c (.e (some 30) [] (.call false 183 [(.t 25), (.t 29)])) (.c (.q 6 [] (.mv (.t 30))) .nil)))))))) .ret)
def t151_1 := b151_1
theorem u151_1 : vcK P t151_1 k e w = vcK P b151_1 k e w := rfl
abbrev b151_2 : X := (.seq (.drw [2, 3, 4, 9] (.c (.q 15 [] (.fa 2 (.t 3))) (.c (.q 16 [] (.ld (.t 15))) (.c (.q 17 [] (.mv (.t 7))) (.c (.q 18 [] (.ssl 1 (.t 16) none (some (.t 17)))) (.c (.q 19 [] (.fa 1 (.t 3))) (.c (.q 20 [] (.ld (.t 19))) (.c (.e (some 21) [] (.call false 124 [(.t 20)])) (.c (.e (some 22) [] (.call false 165 [(.t 18), (.t 21)])) (.c (.q 14 [] (.mv (.t 22))) (.c (.q 23 [] (.ext 0 (.t 14))) (.c (.q 24 [] (.ext 1 (.t 14))) (.c (.q 8 [] (.mv (.t 23))) (.c (.q 9 [] (.mv (.t 24))) .nil)))))))))))))) t151_1)
def t151_2 := b151_2
theorem u151_2 : vcK P t151_2 k e w = vcK P b151_2 k e w := rfl
abbrev b151_3 : X := (.seq (.reg [2, 3, 4, 7] (.c (.q 10 [] (.fa 2 (.t 3))) (.c (.q 11 [] (.ld (.t 10))) (.c (.q 12 [] (.lens (.t 11))) (.c (.q 13 [] (.bin .sub (.t 12) (.c (.int .i64 1)))) (.c (.q 7 [] (.mv (.t 13))) .nil)))))) t151_2)
def t151_3 := b151_3
theorem u151_3 : vcK P t151_3 k e w = vcK P b151_3 k e w := rfl
abbrev b151_0 : X := (.seq (.reg [2, 3, 4] (.c (.e (some 3) [] (.box 68 (.t 0))) (.c (.e (some 4) [] (.box 63 (.t 1))) (.c (.q 6 [] (.mv (.s []))) .nil)))) t151_3)
def x_sl8Head := b151_0
theorem u151_0 : vcK P x_sl8Head k e w = vcK P b151_0 k e w := rfl
def r_sl8Head : List XO := [(.mv (.t 6))]
theorem c_sl8Head : convF Try.prog [54, 55, 58, 69, 70, 71, 72, 73, 84, 89, 94, 95, 113, 114, 115, 130, 134, 143, 146, 161] Try.f151 [([2, 3, 4], []), ([2, 3, 4, 7], []), ([2, 3, 4, 9], []), ([6], [])] = some (x_sl8Head, r_sl8Head) := by kernel_rfl
def us_sl8Head :=  (aI (aI @u151_0 @u151_1) (aI @u151_2 @u151_3))
abbrev b44_1 : X := (.cond (.t 11) (.seq (.reg [4] (.c (.q 4 [] (.mv (.c (.int .i64 (-1))))) .nil)) .ret) .skip)
def t44_1 := b44_1
theorem u44_1 : vcK P t44_1 k e w = vcK P b44_1 k e w := rfl
abbrev b44_2 : X := (.cond (.t 18) (.seq (.reg [4] (.c (.q 4 [] (.mv (.c (.int .i64 (-1))))) .nil)) .ret) .skip)
def t44_2 := b44_2
theorem u44_2 : vcK P t44_2 k e w = vcK P b44_2 k e w := rfl
abbrev b44_3 : X := (.seq (.reg [4] (.c (.q 19 [] (.mv (.t 1))) (.c (.q 4 [] (.mv (.t 19))) .nil))) .ret)
def t44_3 := b44_3
theorem u44_3 : vcK P t44_3 k e w = vcK P b44_3 k e w := rfl
abbrev b44_4 : X := (.seq (.seq (.reg [1, 18] (.c (.q 17 [] (.mv (.t 1))) (.c (.q 18 [] (.bin .lss (.t 17) (.c (.int .i64 0)))) .nil))) t44_2) t44_3)
def t44_4 := b44_4
theorem u44_4 : vcK P t44_4 k e w = vcK P b44_4 k e w := rfl
abbrev b44_5 : X := (.seq (.reg [1] (.c (.q 12 [] (.mv (.t 1))) (.c (.q 13 [] (.fa 1 (.t 2))) (.c (.q 14 [] (.ld (.t 13))) (.c (.q 15 [] (.len (.t 14))) (.c (.q 16 [] (.bin .sub (.t 12) (.t 15))) (.c (.q 1 [] (.mv (.t 16))) .nil))))))) t44_4)
def t44_5 := b44_5
theorem u44_5 : vcK P t44_5 k e w = vcK P b44_5 k e w := rfl
abbrev b44_6 : X := (.seq (.seq (.reg [1, 2, 11] (.c (.q 10 [] (.mv (.t 1))) (.c (.q 11 [] (.bin .lss (.t 10) (.c (.int .i64 0)))) .nil))) t44_1) t44_5)
def t44_6 := b44_6
theorem u44_6 : vcK P t44_6 k e w = vcK P b44_6 k e w := rfl
abbrev b44_7 : X := (.seq (.reg [1, 2] (.c (.q 5 [] (.mv (.t 1))) (.c (.q 6 [] (.fa 0 (.t 2))) (.c (.q 7 [] (.ld (.t 6))) (.c (.q 8 [] (.len (.t 7))) (.c (.q 9 [] (.bin .sub (.t 5) (.t 8))) (.c (.q 1 [] (.mv (.t 9))) .nil))))))) t44_6)
def t44_7 := b44_7
theorem u44_7 : vcK P t44_7 k e w = vcK P b44_7 k e w := rfl
abbrev b44_0 : X := (.seq (.reg [1, 2] (.c (.e (some 2) [] (.box 56 (.t 0))) (.c (.q 4 [] (.mv (.c (.int .i64 0)))) .nil))) t44_7)
def x_lszCalls := b44_0
theorem u44_0 : vcK P x_lszCalls k e w = vcK P b44_0 k e w := rfl
def r_lszCalls : List XO := [(.mv (.t 4))]
theorem c_lszCalls : convF Try.prog [54, 55, 58, 69, 70, 71, 72, 73, 84, 89, 94, 95, 113, 114, 115, 130, 134, 143, 146, 161] Try.f44 [([1, 2], []), ([1, 2], []), ([1, 2, 11], []), ([4], []), ([1], []), ([1, 18], []), ([4], []), ([4], [])] = some (x_lszCalls, r_lszCalls) := by kernel_rfl
def us_lszCalls :=  (aI (aI (aI @u44_0 @u44_1) (aI @u44_2 @u44_3)) (aI (aI @u44_4 @u44_5) (aI @u44_6 @u44_7)))
abbrev b47_1 : X := (.seq (.reg [2] (.c (.q 10 [] (.lda 2 (.t 3))) (.c (.e none [] (.st 2 (.t 2) (.t 10))) .nil))) .ret)
def t47_1 := b47_1
theorem u47_1 : vcK P t47_1 k e w = vcK P b47_1 k e w := rfl
abbrev b47_2 : X := (.seq (.reg [2, 3] (.c (.q 7 [] (.fa 1 (.t 1))) (.c (.q 8 [] (.ld (.t 7))) (.c (.q 9 [] (.fa 1 (.t 3))) (.c (.e none [] (.st 1 (.t 9) (.t 8))) .nil))))) t47_1)
def t47_2 := b47_2
theorem u47_2 : vcK P t47_2 k e w = vcK P b47_2 k e w := rfl
abbrev b47_3 : X := (.seq (.reg [1, 2, 3] (.c (.q 4 [] (.fa 0 (.t 1))) (.c (.q 5 [] (.ld (.t 4))) (.c (.q 6 [] (.fa 0 (.t 3))) (.c (.e none [] (.st 1 (.t 6) (.t 5))) .nil))))) t47_2)
def t47_3 := b47_3
theorem u47_3 : vcK P t47_3 k e w = vcK P b47_3 k e w := rfl
abbrev b47_4 : X := (.seq (.reg [1, 2, 3] (.c (.e (some 3) [] (.al 63 [(S []), (S [])])) .nil)) t47_3)
def t47_4 := b47_4
theorem u47_4 : vcK P t47_4 k e w = vcK P b47_4 k e w := rfl
abbrev b47_0 : X := (.seq (.reg [1, 2] (.c (.e (some 1) [] (.box 56 (.t 0))) (.c (.e (some 2) [] (.al 63 [(S []), (S [])])) .nil))) t47_4)
def x_ltoCalls := b47_0
theorem u47_0 : vcK P x_ltoCalls k e w = vcK P b47_0 k e w := rfl
def r_ltoCalls : List XO := [(.lda 2 (.t 2))]
theorem c_ltoCalls : convF Try.prog [54, 55, 58, 69, 70, 71, 72, 73, 84, 89, 94, 95, 113, 114, 115, 130, 134, 143, 146, 161] Try.f47 [([1, 2], []), ([1, 2, 3], []), ([1, 2, 3], []), ([2, 3], []), ([2], [])] = some (x_ltoCalls, r_ltoCalls) := by kernel_rfl
def us_ltoCalls :=  (aI (aI @u47_0 @u47_1) (aI @u47_2 (aI @u47_3 @u47_4)))
end
/-- The cells of calls: bob, single. -/
def fQ (b s : List UInt8) : List Value := [S b, S s]
abbrev kV (b s : List UInt8) : Value := .agg ⟨fQ b s⟩
theorem fQg (b s : List UInt8) : (∀ v, (fQ b s).getD 0 v = S b) ∧ (∀ v, (fQ b s).getD 1 v = S s) ∧ (fQ b s).length = 2 := ⟨fun _ => rfl, fun _ => rfl, rfl⟩
theorem fQ_one (b s : List UInt8) : ∀ u ∈ fQ b s, u.oneCell' = true := fun u h => by simp only [fQ, List.mem_cons, List.not_mem_nil, or_false] at h; rcases h with rfl | rfl <;> rfl
def IsCall (l : List UInt8) : Prop := l = [112] ∨ l = [98] ∨ l = [115]
instance (l : List UInt8) : Decidable (IsCall l) := by unfold IsCall; infer_instance
theorem iisCall_okc (l : List UInt8) (w : World) : Fn 210 [S l] w (fun r _ => r = .bool (decide (IsCall l))) := by
  (refine callsV_of mix Try.func210 c_iisCall ?_; simp only [↓vsd, vsn, gW, qd, qv, ev, pick, argE, zipE, ne_eq, eq_self, forall_const, implies_true, if_true, if_false, reduceIte, reduceCtorEq, Nat.reduceEqDiff, Nat.reduceAdd, Nat.reduceLT, ↓us_iisCall, r_iisCall])
  refine ⟨Ext.refl _, ?_⟩
  simp only [IsCall, ← Bool.decide_or, or_assoc]
theorem sl8Call_okc (l : List UInt8) (w : World) : Fn 182 [S l] w (fun r _ => r = .bool (decide (IsCall l))) := by
  (refine callsV_of mix Try.func182 c_sl8Call ?_; simp only [↓vsd, vsn, gW, qd, qv, ev, pick, argE, zipE, ne_eq, eq_self, forall_const, implies_true, if_true, if_false, reduceIte, reduceCtorEq, Nat.reduceEqDiff, Nat.reduceAdd, Nat.reduceLT, ↓us_sl8Call, r_sl8Call])
  refine ⟨Ext.refl _, ?_⟩
  simp only [IsCall, ← Bool.decide_or, or_assoc]
/-- A method with calls. -/
def IsMC (nm : List UInt8) (st : Int) (cs : List (List UInt8)) (b s : List UInt8) : Prop := IsMethod nm st cs ∧ IsChange st b ∧ IsChange st s
instance (nm : List UInt8) (st : Int) (cs : List (List UInt8)) (b s : List UInt8) : Decidable (IsMC nm st cs b s) := by unfold IsMC; infer_instance
theorem iGoodCalls_ok (nm : List UInt8) (st : Int) (v : Value) (cs : List (List UInt8)) (b s : List UInt8) (hnm : nm.length ≤ 1048576) (hs : ∀ c ∈ cs, c.length ≤ 1048576) (hl : cs.length ≤ 1000000000) (hb : b.length ≤ 1048576 ∧ s.length ≤ 1048576) (w : World) (h : Sq fS 1 w v cs) : Fn 162 [mV nm st v, kV b s] w (fun r _ => r = .bool (decide (IsMC nm st cs b s))) := by
  (refine callsV_of mix Try.func162 c_iGoodCalls ?_; simp only [↓vsd, vsn, gW, qd, qv, ev, pick, argE, zipE, ne_eq, eq_self, forall_const, implies_true, if_true, if_false, reduceIte, reduceCtorEq, Nat.reduceEqDiff, Nat.reduceAdd, Nat.reduceLT, ↓us_iGoodCalls, r_iGoodCalls])
  refine m_al ?_
  rintro b1 w1 hb1 hblk1 hx1 hs1
  have h1 : Blk w1 b1 (fM nm st v) 68 := hblk1
  simp only [↓vsd, vsn, gW, qd, qv, ev, pick, argE, zipE, ne_eq, eq_self, forall_const, implies_true, if_true, if_false, reduceIte, reduceCtorEq, Nat.reduceEqDiff, Nat.reduceAdd, Nat.reduceLT, ↓us_iGoodCalls, r_iGoodCalls, h1.facts, fMg]
  refine m_al ?_
  rintro b2 w2 hb2 hblk2 hx2 hs2
  have h2 : Blk w2 b2 (fQ b s) 63 := hblk2
  have h12 := h1.ext hx2
  have hx12 := hx1.trans hx2
  simp only [↓vsd, vsn, gW, qd, qv, ev, pick, argE, zipE, ne_eq, eq_self, forall_const, implies_true, if_true, if_false, reduceIte, reduceCtorEq, Nat.reduceEqDiff, Nat.reduceAdd, Nat.reduceLT, ↓us_iGoodCalls, r_iGoodCalls, h12.facts, h2.facts, fMg, fQg]
  refine m_call (iGoodMethod_ok nm st v cs hnm hs hl _ (h.ext hx12)) ?_
  rintro _ w3 hx3 rfl
  have h13 := h12.ext hx3
  have h23 := h2.ext hx3
  simp only [↓vsd, vsn, gW, qd, qv, ev, pick, argE, zipE, ne_eq, eq_self, forall_const, implies_true, if_true, if_false, reduceIte, reduceCtorEq, Nat.reduceEqDiff, Nat.reduceAdd, Nat.reduceLT, ↓us_iGoodCalls, r_iGoodCalls, h13.facts, h23.facts, fMg, fQg]
  refine ⟨fun hm => m_call (iGoodChange_ok st b hb.1 _) ?_, fun hm => ?_⟩
  · rintro _ w4 hx4 rfl
    have h14 := h13.ext hx4
    have h24 := h23.ext hx4
    simp only [↓vsd, vsn, gW, qd, qv, ev, pick, argE, zipE, ne_eq, eq_self, forall_const, implies_true, if_true, if_false, reduceIte, reduceCtorEq, Nat.reduceEqDiff, Nat.reduceAdd, Nat.reduceLT, ↓us_iGoodCalls, r_iGoodCalls, h14.facts, h24.facts, fMg, fQg]
    refine ⟨fun hcb => m_call (iGoodChange_ok st s hb.2 _) ?_, fun hcb => ⟨(hx12.trans hx3).trans hx4, by rw [decide_eq_false fun hh : IsMC nm st cs b s => hcb ⟨hh.1, hh.2.1⟩]⟩⟩
    rintro _ w5 hx5 rfl
    simp only [↓vsd, vsn, gW, qd, qv, ev, pick, argE, zipE, ne_eq, eq_self, forall_const, implies_true, if_true, if_false, reduceIte, reduceCtorEq, Nat.reduceEqDiff, Nat.reduceAdd, Nat.reduceLT, ↓us_iGoodCalls, r_iGoodCalls]
    exact ⟨((hx12.trans hx3).trans hx4).trans hx5, by simp [IsMC, hm, hcb]⟩
  · exact ⟨hx12.trans hx3, by simp [IsMC, hm]⟩
theorem sl8Good_ok (nm : List UInt8) (st : Int) (v : Value) (cs : List (List UInt8)) (b s : List UInt8) (hnm : nm.length ≤ 1048576) (hs : ∀ c ∈ cs, c.length ≤ 1048576) (hl : cs.length ≤ 1000000000) (hb : b.length ≤ 1048576 ∧ s.length ≤ 1048576) (w : World) (h : Sq fS 1 w v cs) : Fn 163 [mV nm st v, kV b s] w (fun r _ => r = .bool (decide (IsMC nm st cs b s))) := by
  (refine callsV_of mix Try.func163 c_sl8Good ?_; simp only [↓vsd, vsn, gW, qd, qv, ev, pick, argE, zipE, ne_eq, eq_self, forall_const, implies_true, if_true, if_false, reduceIte, reduceCtorEq, Nat.reduceEqDiff, Nat.reduceAdd, Nat.reduceLT, ↓us_sl8Good, r_sl8Good])
  refine m_al ?_
  rintro b1 w1 hb1 hblk1 hx1 hs1
  have h1 : Blk w1 b1 (fM nm st v) 68 := hblk1
  simp only [↓vsd, vsn, gW, qd, qv, ev, pick, argE, zipE, ne_eq, eq_self, forall_const, implies_true, if_true, if_false, reduceIte, reduceCtorEq, Nat.reduceEqDiff, Nat.reduceAdd, Nat.reduceLT, ↓us_sl8Good, r_sl8Good, h1.facts, fMg]
  refine m_al ?_
  rintro b2 w2 hb2 hblk2 hx2 hs2
  have h2 : Blk w2 b2 (fQ b s) 63 := hblk2
  have h12 := h1.ext hx2
  have hx12 := hx1.trans hx2
  simp only [↓vsd, vsn, gW, qd, qv, ev, pick, argE, zipE, ne_eq, eq_self, forall_const, implies_true, if_true, if_false, reduceIte, reduceCtorEq, Nat.reduceEqDiff, Nat.reduceAdd, Nat.reduceLT, ↓us_sl8Good, r_sl8Good, h12.facts, h2.facts, fMg, fQg]
  refine m_call (sl4Good_ok nm st v cs hnm hs hl _ (h.ext hx12)) ?_
  rintro _ w3 hx3 rfl
  have h13 := h12.ext hx3
  have h23 := h2.ext hx3
  simp only [↓vsd, vsn, gW, qd, qv, ev, pick, argE, zipE, ne_eq, eq_self, forall_const, implies_true, if_true, if_false, reduceIte, reduceCtorEq, Nat.reduceEqDiff, Nat.reduceAdd, Nat.reduceLT, ↓us_sl8Good, r_sl8Good, h13.facts, h23.facts, fMg, fQg]
  refine ⟨fun hm => m_call (sl2Change_ok st b hb.1 _) ?_, fun hm => ?_⟩
  · rintro _ w4 hx4 rfl
    have h14 := h13.ext hx4
    have h24 := h23.ext hx4
    simp only [↓vsd, vsn, gW, qd, qv, ev, pick, argE, zipE, ne_eq, eq_self, forall_const, implies_true, if_true, if_false, reduceIte, reduceCtorEq, Nat.reduceEqDiff, Nat.reduceAdd, Nat.reduceLT, ↓us_sl8Good, r_sl8Good, h14.facts, h24.facts, fMg, fQg]
    refine ⟨fun hcb => m_call (sl2Change_ok st s hb.2 _) ?_, fun hcb => ⟨(hx12.trans hx3).trans hx4, by rw [decide_eq_false fun hh : IsMC nm st cs b s => hcb ⟨hh.1, hh.2.1⟩]⟩⟩
    rintro _ w5 hx5 rfl
    simp only [↓vsd, vsn, gW, qd, qv, ev, pick, argE, zipE, ne_eq, eq_self, forall_const, implies_true, if_true, if_false, reduceIte, reduceCtorEq, Nat.reduceEqDiff, Nat.reduceAdd, Nat.reduceLT, ↓us_sl8Good, r_sl8Good]
    exact ⟨((hx12.trans hx3).trans hx4).trans hx5, by simp [IsMC, hm, hcb]⟩
  · exact ⟨hx12.trans hx3, by simp [IsMC, hm]⟩
/-- The last change of a lead with a call. -/
def chgOf (cs : List (List UInt8)) (b s call : List UInt8) : List UInt8 := if call = [98] then b else if call = [115] then s else cs.getD (cs.length - 1) []
def calledCs (cs : List (List UInt8)) (b s call : List UInt8) : List (List UInt8) := cs.take (cs.length - 1) ++ [chgOf cs b s call]
/-- The lead head of a lead with a call. -/
def headC (st : Nat) (cs : List (List UInt8)) (b s call : List UInt8) : List UInt8 := underL (roundsL st) (calledCs cs b s call)
theorem headC_eq (st : Nat) (cs : List (List UInt8)) (b s call : List UInt8) : headC st cs b s call = applyL (underL (roundsL st) (cs.take (cs.length - 1))) (chgOf cs b s call) := by
  rw [headC, calledCs, underL, underL, List.foldl_append]; rfl
theorem calledCs_len (cs : List (List UInt8)) (b s call : List UInt8) (h : 1 ≤ cs.length) : (calledCs cs b s call).length = cs.length := by
  simp [calledCs]; omega
theorem IsMC.chg {nm : List UInt8} {st : Int} {cs : List (List UInt8)} {b s : List UInt8} (h : IsMC nm st cs b s) (call : List UInt8) : IsChange st (chgOf cs b s call) := by
  unfold chgOf
  split
  · exact h.2.1
  · split
    · exact h.2.2
    · exact h.1.2.2.2 _ (getD_mem [] (by have := h.1.2.2.1; omega))
theorem IsMC.called {nm : List UInt8} {st : Int} {cs : List (List UInt8)} {b s : List UInt8} (h : IsMC nm st cs b s) (call : List UInt8) : IsMethod nm st (calledCs cs b s call) := by
  refine ⟨h.1.1, h.1.2.1, by rw [calledCs_len _ _ _ _ h.1.2.2.1.1]; exact h.1.2.2.1, fun c hc => ?_⟩
  rcases List.mem_append.1 hc with hc | hc
  · exact h.1.2.2.2 c (List.mem_of_mem_take hc)
  · rw [List.mem_singleton.1 hc]; exact h.chg call
theorem headC_row {nm : List UInt8} {st : Nat} {cs : List (List UInt8)} {b s : List UInt8} (h : IsMC nm st cs b s) (call : List UInt8) : IsRow (headC st cs b s call) ∧ (headC st cs b s call).length = st := by
  have h8 := h.1.2.1
  exact ⟨underL_row _ (roundsL_row st (by omega)), by rw [headC, underL_len, roundsL_len]⟩
theorem IsChange.small {n : Int} {c : List UInt8} (h : IsChange n c) : c.length ≤ 8 := by have := h.len; have := h.1; omega
theorem sl8Change_ok (nm : List UInt8) (st : Int) (v : Value) (cs : List (List UInt8)) (b s call : List UInt8) (hl : 1 ≤ cs.length ∧ cs.length ≤ 40) (w : World) (h : Sq fS 1 w v cs) : Fn 184 [mV nm st v, kV b s, S call] w (fun r _ => r = S (chgOf cs b s call)) := by
  (refine callsV_of mix Try.func184 c_sl8Change ?_; simp only [↓vsd, vsn, gW, qd, qv, ev, pick, argE, zipE, ne_eq, eq_self, forall_const, implies_true, if_true, if_false, reduceIte, reduceCtorEq, Nat.reduceEqDiff, Nat.reduceAdd, Nat.reduceLT, ↓us_sl8Change, r_sl8Change])
  refine m_al ?_
  rintro b1 w1 hb1 hblk1 hx1 hs1
  have h1 : Blk w1 b1 (fM nm st v) 68 := hblk1
  simp only [↓vsd, vsn, gW, qd, qv, ev, pick, argE, zipE, ne_eq, eq_self, forall_const, implies_true, if_true, if_false, reduceIte, reduceCtorEq, Nat.reduceEqDiff, Nat.reduceAdd, Nat.reduceLT, ↓us_sl8Change, r_sl8Change, h1.facts, fMg]
  refine m_al ?_
  rintro b2 w2 hb2 hblk2 hx2 hs2
  have h2 : Blk w2 b2 (fQ b s) 63 := hblk2
  have h12 := h1.ext hx2
  have hx12 := hx1.trans hx2
  have hq := h.ext hx12
  have hI : ((cs.length : Nat) : Int) - 1 = ((cs.length - 1 : Nat) : Int) := by omega
  have hlt : cs.length - 1 < cs.length := by omega
  simp only [↓vsd, vsn, gW, qd, qv, ev, pick, argE, zipE, ne_eq, eq_self, forall_const, implies_true, if_true, if_false, reduceIte, reduceCtorEq, Nat.reduceEqDiff, Nat.reduceAdd, Nat.reduceLT, ↓us_sl8Change, r_sl8Change, h12.facts, h2.facts, fMg, fQg, hq.facts, hI, hq.at1 [] hlt]
  refine ⟨fun h1 => ⟨hx12, by rw [chgOf, if_pos h1]⟩, fun h1 => ⟨fun h2 => ⟨hx12, by rw [chgOf, if_neg h1, if_pos h2]⟩, fun h2 => ⟨inR_i64 (by omega), by omega, hx12, by rw [chgOf, if_neg h1, if_neg h2]⟩⟩⟩
theorem sl8Head_ok (nm : List UInt8) (st : Nat) (v : Value) (cs : List (List UInt8)) (b s call : List UInt8) (hm : IsMC nm st cs b s) (w : World) (h : Sq fS 1 w v cs) : Fn 151 [mV nm st v, kV b s, S call] w (fun r _ => r = S (headC st cs b s call)) := by
  (refine callsV_of mix Try.func151 c_sl8Head ?_; simp only [↓vsd, vsn, gW, qd, qv, ev, pick, argE, zipE, ne_eq, eq_self, forall_const, implies_true, if_true, if_false, reduceIte, reduceCtorEq, Nat.reduceEqDiff, Nat.reduceAdd, Nat.reduceLT, ↓us_sl8Head, r_sl8Head])
  refine m_al ?_
  rintro b1 w1 hb1 hblk1 hx1 hs1
  have h1 : Blk w1 b1 (fM nm st v) 68 := hblk1
  simp only [↓vsd, vsn, gW, qd, qv, ev, pick, argE, zipE, ne_eq, eq_self, forall_const, implies_true, if_true, if_false, reduceIte, reduceCtorEq, Nat.reduceEqDiff, Nat.reduceAdd, Nat.reduceLT, ↓us_sl8Head, r_sl8Head, h1.facts, fMg]
  refine m_al ?_
  rintro b2 w2 hb2 hblk2 hx2 hs2
  have h2 : Blk w2 b2 (fQ b s) 63 := hblk2
  have h12 := h1.ext hx2
  have hx12 := hx1.trans hx2
  have hq := h.ext hx12
  have hc := hm.1.2.2.1
  have h8 := hm.1.2.1
  have hI : ((cs.length : Nat) : Int) - 1 = ((cs.length - 1 : Nat) : Int) := by omega
  obtain ⟨hd, hqh⟩ := hq.headS .i64 (cs.length - 1) (by omega)
  simp only [↓vsd, vsn, gW, qd, qv, ev, pick, argE, zipE, ne_eq, eq_self, forall_const, implies_true, if_true, if_false, reduceIte, reduceCtorEq, Nat.reduceEqDiff, Nat.reduceAdd, Nat.reduceLT, ↓us_sl8Head, r_sl8Head, h12.facts, h2.facts, fMg, fQg, hq.facts, hI, hd]
  refine ⟨inR_i64 (by omega), m_call (sl1Rounds_ok st (by omega) _) ?_⟩
  rintro _ w3 hx3 rfl
  have hx3 := ud hx3
  have h13 := h12.ext hx3
  have h23 := h2.ext hx3
  simp only [↓vsd, vsn, gW, qd, qv, ev, pick, argE, zipE, ne_eq, eq_self, forall_const, implies_true, if_true, if_false, reduceIte, reduceCtorEq, Nat.reduceEqDiff, Nat.reduceAdd, Nat.reduceLT, ↓us_sl8Head, r_sl8Head, h13.facts, h23.facts, fMg, fQg]
  refine m_call (sl4Lead_ok (roundsL st) _ (cs.take (cs.length - 1)) st (roundsL_row st (by omega)) (fun c hc => hm.1.2.2.2 c (List.mem_of_mem_take hc)) (by rw [List.length_take]; omega) _ (hqh.ext hx3)) ?_
  rintro _ w4 hx4 ⟨x, rfl, ho⟩
  have h14 := h13.ext hx4
  have h24 := h23.ext hx4
  have hx14 := (hx12.trans hx3).trans hx4
  simp only [↓vsd, vsn, gW, qd, qv, ev, pick, argE, zipE, ne_eq, eq_self, forall_const, implies_true, if_true, if_false, reduceIte, reduceCtorEq, Nat.reduceEqDiff, Nat.reduceAdd, Nat.reduceLT, ↓us_sl8Head, r_sl8Head, h14.facts, h24.facts, fMg, fQg]
  refine m_call (sl8Change_ok nm st v cs b s call hc _ (h.ext hx14)) ?_
  rintro _ w5 hx5 rfl
  simp only [↓vsd, vsn, gW, qd, qv, ev, pick, argE, zipE, ne_eq, eq_self, forall_const, implies_true, if_true, if_false, reduceIte, reduceCtorEq, Nat.reduceEqDiff, Nat.reduceAdd, Nat.reduceLT, ↓us_sl8Head, r_sl8Head]
  refine m_call (sl2Apply_ok _ _ (underL_row _ (roundsL_row st (by omega))) (by have := (hm.chg call).small; omega) _) ?_
  rintro _ w6 hx6 rfl
  simp only [↓vsd, vsn, gW, qd, qv, ev, pick, argE, zipE, ne_eq, eq_self, forall_const, implies_true, if_true, if_false, reduceIte, reduceCtorEq, Nat.reduceEqDiff, Nat.reduceAdd, Nat.reduceLT, ↓us_sl8Head, r_sl8Head]
  exact ⟨(hx14.trans hx5).trans hx6, by rw [headC_eq]⟩
/-- A law's size of calls. -/
theorem lszCalls_ok (b s : List UInt8) (n : Int) (hn : n ≤ 1048576 ∧ 0 ≤ n) (hb : b.length ≤ 9223372036854775807 ∧ s.length ≤ 9223372036854775807) (w : World) :
    Fn 44 [kV b s, .int .i64 n] w (fun r _ => ∃ m : Int, r = .int .i64 m ∧ m ≤ 1048576 ∧ (0 ≤ m → b.length ≤ 1048576 ∧ s.length ≤ 1048576)) := by
  (refine callsV_of mix Try.func44 c_lszCalls ?_; simp only [↓vsd, vsn, gW, qd, qv, ev, pick, argE, zipE, ne_eq, eq_self, forall_const, implies_true, if_true, if_false, reduceIte, reduceCtorEq, Nat.reduceEqDiff, Nat.reduceAdd, Nat.reduceLT, ↓us_lszCalls, r_lszCalls])
  refine m_al ?_
  rintro b1 w1 hb1 hblk hx1 hs1
  have h1 : Blk w1 b1 (fQ b s) 56 := hblk
  simp only [↓vsd, vsn, gW, qd, qv, ev, pick, argE, zipE, ne_eq, eq_self, forall_const, implies_true, if_true, if_false, reduceIte, reduceCtorEq, Nat.reduceEqDiff, Nat.reduceAdd, Nat.reduceLT, ↓us_lszCalls, r_lszCalls, h1.facts, fQg]
  refine ⟨inR_i64 (by omega), fun hneg => ⟨hx1, -1, rfl, by omega, fun h => by omega⟩, fun hpos => ⟨inR_i64 (by omega), fun hneg => ⟨hx1, -1, rfl, by omega, fun h => by omega⟩, fun hp => ⟨hx1, _, rfl, by omega, fun _ => by omega⟩⟩⟩
theorem ltoCalls_ok (b s : List UInt8) (w : World) : Fn 47 [kV b s] w (fun r _ => r = kV b s) := by
  (refine callsV_of mix Try.func47 c_ltoCalls ?_; simp only [↓vsd, vsn, gW, qd, qv, ev, pick, argE, zipE, ne_eq, eq_self, forall_const, implies_true, if_true, if_false, reduceIte, reduceCtorEq, Nat.reduceEqDiff, Nat.reduceAdd, Nat.reduceLT, ↓us_ltoCalls, r_ltoCalls])
  refine m_al ?_
  rintro b1 w1 hb1 hblk1 hx1 hs1
  have h1 : Blk w1 b1 (fQ b s) 56 := hblk1
  simp only [↓vsd, vsn, gW, qd, qv, ev, pick, argE, zipE, ne_eq, eq_self, forall_const, implies_true, if_true, if_false, reduceIte, reduceCtorEq, Nat.reduceEqDiff, Nat.reduceAdd, Nat.reduceLT, ↓us_ltoCalls, r_ltoCalls, h1.facts, fQg]
  refine m_al ?_
  rintro b2 w2 hb2 hblk2 hx2 hs2
  have h1 := h1.ext hx2
  simp only [↓vsd, vsn, gW, qd, qv, ev, pick, argE, zipE, ne_eq, eq_self, forall_const, implies_true, if_true, if_false, reduceIte, reduceCtorEq, Nat.reduceEqDiff, Nat.reduceAdd, Nat.reduceLT, ↓us_ltoCalls, r_ltoCalls, h1.facts, fQg]
  refine m_al ?_
  rintro b3 w3 hb3 hblk3 hx3 hs3
  have h1 := h1.ext hx3
  simp only [↓vsd, vsn, gW, qd, qv, ev, pick, argE, zipE, ne_eq, eq_self, forall_const, implies_true, if_true, if_false, reduceIte, reduceCtorEq, Nat.reduceEqDiff, Nat.reduceAdd, Nat.reduceLT, ↓us_ltoCalls, r_ltoCalls, h1.facts, fQg]
  refine m_st hblk3 rfl (by simp) (fS_one _) ?_
  rintro w4 hblk4 hu4
  have h1 := hu4.blk h1 (by omega)
  simp only [↓vsd, vsn, gW, qd, qv, ev, pick, argE, zipE, ne_eq, eq_self, forall_const, implies_true, if_true, if_false, reduceIte, reduceCtorEq, Nat.reduceEqDiff, Nat.reduceAdd, Nat.reduceLT, ↓us_ltoCalls, r_ltoCalls, h1.facts, fQg]
  refine m_st hblk4 rfl (Nat.le_refl 2) (fS_one _) ?_
  rintro w5 hblk5 hu5
  have h5 : Blk w5 b3 (fQ b s) 63 := hblk5
  have hx : Ext w w5 := hu5.below (hu4.below ((hx1.trans hx2).trans hx3) (by omega)) (by omega)
  simp only [↓vsd, vsn, gW, qd, qv, ev, pick, argE, zipE, ne_eq, eq_self, forall_const, implies_true, if_true, if_false, reduceIte, reduceCtorEq, Nat.reduceEqDiff, Nat.reduceAdd, Nat.reduceLT, ↓us_ltoCalls, r_ltoCalls, h5.facts, fQg]
  refine m_st (hu5.blk (hu4.blk (hblk2.ext hx3) (by omega)) (by omega)) rfl (Nat.le_refl 2) (fQ_one _ _) ?_
  rintro w6 hblk6 hu6
  have h6 : Blk w6 b2 (fQ b s) 63 := hblk6
  have hx : Ext w w6 := hu6.below hx (by omega)
  simp only [↓vsd, vsn, gW, qd, qv, ev, pick, argE, zipE, ne_eq, eq_self, forall_const, implies_true, if_true, if_false, reduceIte, reduceCtorEq, Nat.reduceEqDiff, Nat.reduceAdd, Nat.reduceLT, ↓us_ltoCalls, r_ltoCalls, h6.facts, fQg]
  exact hx
end Go.Proofs.Ythopbkemkfjebaa
