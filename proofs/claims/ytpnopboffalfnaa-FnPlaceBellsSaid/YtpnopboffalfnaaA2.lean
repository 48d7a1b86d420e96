/-
  Patterns: what is a good pattern; the law FnExactGoodPattern's call.
  Conditions: none.
-/
import Derived.Test.YtpnopboffalfnaaA1
set_option linter.unusedSimpArgs false
set_option linter.unusedVariables false
set_option linter.defProp false
namespace Go.Proofs.Ytpnopboffalfnaa
open Go Go.RowKit
section
variable (P : Program) (k : KT) (e : Env) (w : World)
abbrev b272_1 : X := (.cond (.t 30) (.seq (.reg [2] (.c (.q 2 [] (.mv (.c (.bool false)))) .nil)) .ret) .skip)
def t272_1 := b272_1
theorem u272_1 : vcK P t272_1 k e w = vcK P b272_1 k e w := rfl
abbrev b272_2 : X := (.seq (.reg [0, 5, 6, 30] (.c (.q 9 [] (.mv (.t 0))) (.c (.q 10 [] (.mv (.t 3))) (.c (.q 11 [] (.idx (.t 9) (.t 10))) (.c (.q 12 [] (.bin .neq (.t 11) (.c (.int .u8 63)))) (.c (.q 13 [] (.mv (.t 12))) (.c (.q 14 [(13, true)] (.mv (.t 0))) (.c (.q 15 [(13, true)] (.mv (.t 3))) (.c (.q 16 [(13, true)] (.idx (.t 14) (.t 15))) (.c (.q 17 [(13, true)] (.bin .neq (.t 16) (.c (.int .u8 42)))) (.c (.q 18 [] (.pick (.t 13) (.t 17) (.c (.bool false)))) (.c (.q 19 [] (.mv (.t 18))) (.c (.q 20 [(19, true)] (.mv (.t 0))) (.c (.q 21 [(19, true)] (.mv (.t 3))) (.c (.q 22 [(19, true)] (.idx (.t 20) (.t 21))) (.c (.q 23 [(19, true)] (.bin .lss (.t 22) (.c (.int .u8 49)))) (.c (.q 24 [(19, true)] (.mv (.t 23))) (.c (.q 25 [(24, false), (19, true)] (.mv (.t 0))) (.c (.q 26 [(24, false), (19, true)] (.mv (.t 3))) (.c (.q 27 [(24, false), (19, true)] (.idx (.t 25) (.t 26))) (.c (.q 28 [(24, false), (19, true)] (.bin .gtr (.t 27) (.c (.int .u8 56)))) (.c (.q 29 [(19, true)] (.pick (.t 24) (.c (.bool true)) (.t 28))) (.c (.q 30 [] (.pick (.t 19) (.t 29) (.c (.bool false)))) .nil))))))))))))))))))))))) t272_1)
def t272_2 := b272_2
theorem u272_2 : vcK P t272_2 k e w = vcK P b272_2 k e w := rfl
abbrev b272_3 : X := (.reg [0, 5, 6] (.c (.q 31 [] (.bin .add (.t 6) (.c (.int .i64 1)))) (.c (.q 6 [] (.mv (.t 31))) .nil)))
def t272_3 := b272_3
theorem u272_3 : vcK P t272_3 k e w = vcK P b272_3 k e w := rfl
abbrev b272_4 : X := (.seq (.blk 1 (.seq (.reg [0, 3, 5, 6] (.c (.q 8 [] (.mv (.t 6))) (.c (.q 3 [] (.mv (.t 8))) .nil))) t272_2)) t272_3)
def t272_4 := b272_4
theorem u272_4 : vcK P t272_4 k e w = vcK P b272_4 k e w := rfl
abbrev b272_5 : X := (.seq (.cond (.t 7) .skip (.exit 0)) t272_4)
def t272_5 := b272_5
theorem u272_5 : vcK P t272_5 k e w = vcK P b272_5 k e w := rfl
abbrev b272_6 : X := (.seq (.reg [0, 5, 6, 7] (.c (.q 7 [] (.bin .lss (.t 6) (.t 5))) .nil)) t272_5)
def t272_6 := b272_6
theorem u272_6 : vcK P t272_6 k e w = vcK P b272_6 k e w := rfl
abbrev b272_7 : X := (.blk 0 (.loop [6] [0, 5] t272_6))
def t272_7 := b272_7
theorem u272_7 : vcK P t272_7 k e w = vcK P b272_7 k e w := rfl
abbrev b272_8 : X := (.seq (.reg [2] (.c (.q 32 [] (.mv (.t 0))) (.c (.q 33 [] (.len (.t 32))) (.c (.e (some 34) [] (.call false 266 [(.t 33), (.c (.int .i64 1)), (.c (.int .i64 10))])) (.c (.q 2 [] (.mv (.t 34))) .nil))))) .ret)
def t272_8 := b272_8
theorem u272_8 : vcK P t272_8 k e w = vcK P b272_8 k e w := rfl
abbrev b272_9 : X := (.seq (.seq (.reg [0, 5, 6] (.c (.q 4 [] (.mv (.t 0))) (.c (.q 5 [] (.len (.t 4))) (.c (.q 6 [] (.mv (.c (.int .i64 0)))) .nil)))) t272_7) t272_8)
def t272_9 := b272_9
theorem u272_9 : vcK P t272_9 k e w = vcK P b272_9 k e w := rfl
abbrev b272_0 : X := (.seq (.reg [0] (.c (.q 2 [] (.mv (.c (.bool false)))) .nil)) t272_9)
def x_iGoodPattern := b272_0
theorem u272_0 : vcK P x_iGoodPattern k e w = vcK P b272_0 k e w := rfl
def r_iGoodPattern : List XO := [(.mv (.t 2))]
theorem c_iGoodPattern : convF Try.prog [169, 170, 207, 208, 210, 227, 232, 233, 255, 259, 268, 269, 270, 280, 281, 296, 299, 306, 307, 309] Try.f272 [([0], []), ([0, 5, 6], []), ([6], [0, 5]), ([0, 5, 6, 7], []), ([0, 3, 5, 6], []), ([0, 5, 6, 30], []), ([2], []), ([0, 5, 6], []), ([2], [])] = some (x_iGoodPattern, r_iGoodPattern) := by kernel_rfl
def us_iGoodPattern := aI @u272_0 (aI @u272_1 (aI @u272_2 (aI @u272_3 (aI @u272_4 (aI @u272_5 (aI @u272_6 (aI @u272_7 (aI @u272_8 @u272_9))))))))
abbrev b286_1 : X := (.cond (.t 7) .skip (.exit 0))
def t286_1 := b286_1
theorem u286_1 : vcK P t286_1 k e w = vcK P b286_1 k e w := rfl
abbrev b286_2 : X := (.cond (.t 32) (.seq (.reg [2] (.c (.q 2 [] (.mv (.c (.bool false)))) .nil)) .ret) .skip)
def t286_2 := b286_2
theorem u286_2 : vcK P t286_2 k e w = vcK P b286_2 k e w := rfl
abbrev b286_3 : X := (.reg [0, 3] (.c (.q 8 [] (.mv (.t 3))) (.c (.q 9 [] (.bin .add (.t 8) (.c (.int .i64 1)))) (.c (.q 3 [] (.mv (.t 9))) .nil))))
def t286_3 := b286_3
theorem u286_3 : vcK P t286_3 k e w = vcK P b286_3 k e w := rfl
abbrev b286_4 : X := (.seq (.blk 1 (.seq (.reg [0, 3, 32] (.c (.q 10 [] (.mv (.t 0))) (.c (.q 11 [] (.mv (.t 3))) (.c (.q 12 [] (.idx (.t 10) (.t 11))) (.c (.q 13 [] (.bin .geq (.t 12) (.c (.int .u8 49)))) (.c (.q 14 [] (.mv (.t 13))) (.c (.q 15 [(14, true)] (.mv (.t 0))) (.c (.q 16 [(14, true)] (.mv (.t 3))) (.c (.q 17 [(14, true)] (.idx (.t 15) (.t 16))) (.c (.q 18 [(14, true)] (.bin .leq (.t 17) (.c (.int .u8 56)))) (.c (.q 19 [] (.pick (.t 14) (.t 18) (.c (.bool false)))) (.c (.q 20 [] (.mv (.t 19))) (.c (.q 21 [(20, false)] (.mv (.t 0))) (.c (.q 22 [(20, false)] (.mv (.t 3))) (.c (.q 23 [(20, false)] (.idx (.t 21) (.t 22))) (.c (.q 24 [(20, false)] (.bin .eql (.t 23) (.c (.int .u8 63)))) (.c (.q 25 [] (.pick (.t 20) (.c (.bool true)) (.t 24))) (.c (.q 26 [] (.mv (.t 25))) (.c (.q 27 [(26, false)] (.mv (.t 0))) (.c (.q 28 [(26, false)] (.mv (.t 3))) (.c (.q 29 [(26, false)] (.idx (.t 27) (.t 28))) (.c (.q 30 [(26, false)] (.bin .eql (.t 29) (.c (.int .u8 42)))) (.c (.q 31 [] (.pick (.t 26) (.c (.bool true)) (.t 30))) (.c (.q 32 [] (.not (.t 31))) .nil)))))))))))))))))))))))) t286_2)) t286_3)
def t286_4 := b286_4
theorem u286_4 : vcK P t286_4 k e w = vcK P b286_4 k e w := rfl
abbrev b286_5 : X := (.seq (.seq (.reg [0, 3, 7] (.c (.q 4 [] (.mv (.t 3))) (.c (.q 5 [] (.mv (.t 0))) (.c (.q 6 [] (.len (.t 5))) (.c (.q 7 [] (.bin .lss (.t 4) (.t 6))) .nil))))) t286_1) t286_4)
def t286_5 := b286_5
theorem u286_5 : vcK P t286_5 k e w = vcK P b286_5 k e w := rfl
abbrev b286_6 : X := (.blk 0 (.loop [3] [0] t286_5))
def t286_6 := b286_6
theorem u286_6 : vcK P t286_6 k e w = vcK P b286_6 k e w := rfl
abbrev b286_7 : X := (.seq (.reg [2] (.c (.q 33 [] (.mv (.t 0))) (.c (.q 34 [] (.len (.t 33))) (.c (.e (some 35) [] (.call false 173 [(.t 34), (.c (.int .i64 1)), (.c (.int .i64 10))])) (.c (.q 2 [] (.mv (.t 35))) .nil))))) .ret)
def t286_7 := b286_7
theorem u286_7 : vcK P t286_7 k e w = vcK P b286_7 k e w := rfl
abbrev b286_8 : X := (.seq (.seq (.reg [0, 3] (.c (.q 3 [] (.mv (.c (.int .i64 0)))) .nil)) t286_6) t286_7)
def t286_8 := b286_8
theorem u286_8 : vcK P t286_8 k e w = vcK P b286_8 k e w := rfl
abbrev b286_0 : X := (.seq (.reg [0] (.c (.q 2 [] (.mv (.c (.bool false)))) .nil)) t286_8)
def x_sl16Good := b286_0
theorem u286_0 : vcK P x_sl16Good k e w = vcK P b286_0 k e w := rfl
def r_sl16Good : List XO := [(.mv (.t 2))]
theorem c_sl16Good : convF Try.prog [169, 170, 207, 208, 210, 227, 232, 233, 255, 259, 268, 269, 270, 280, 281, 296, 299, 306, 307, 309] Try.f286 [([0], []), ([0, 3], []), ([3], [0]), ([0, 3, 7], []), ([0, 3, 32], []), ([2], []), ([0, 3], []), ([2], [])] = some (x_sl16Good, r_sl16Good) := by kernel_rfl
def us_sl16Good := aI @u286_0 (aI @u286_1 (aI @u286_2 (aI @u286_3 (aI @u286_4 (aI @u286_5 (aI @u286_6 (aI @u286_7 @u286_8)))))))
end

def PatB (c : UInt8) : Prop := c.toNat = 63 ∨ c.toNat = 42 ∨ (49 ≤ c.toNat ∧ c.toNat ≤ 56)
instance (c : UInt8) : Decidable (PatB c) := by unfold PatB; infer_instance
def PatUp (l : List UInt8) (k : Nat) : Prop := ∀ i < k, PatB (l.getD i 0)
instance (l : List UInt8) (k : Nat) : Decidable (PatUp l k) := by unfold PatUp; infer_instance
def IsPat (l : List UInt8) : Prop := PatUp l l.length ∧ 1 ≤ l.length ∧ l.length ≤ 10
instance (l : List UInt8) : Decidable (IsPat l) := by unfold IsPat; infer_instance
theorem PatUp.succ {l : List UInt8} {k : Nat} (h : PatUp l k) (h1 : PatB (l.getD k 0)) : PatUp l (k + 1) := fun i hi => by
  by_cases he : i = k
  · subst he; exact h1
  · exact h i (by omega)
theorem iGoodPattern_ok (l : List UInt8) (hl : l.length ≤ 9223372036854775807) (w : World) : Fn 272 [S l] w (fun v _ => v = .bool (decide (IsPat l))) := by
  (refine callsV_of mix Try.func272 c_iGoodPattern ?_; simp only [↓vsd, vsn, gW, qd, qv, ev, pick, argE, zipE, ne_eq, eq_self, forall_const, implies_true, if_true, if_false, reduceIte, reduceCtorEq, Nat.reduceEqDiff, Nat.reduceAdd, Nat.reduceLT, ↓us_iGoodPattern, r_iGoodPattern])
  refine m_loop (fun m vs w' => ∃ k : Nat, m = l.length - k ∧ k ≤ l.length ∧ vs = [.int .i64 k] ∧ PatUp l k ∧ Ext w w') l.length ?_ ?_
  · exact ⟨0, by omega, by omega, rfl, fun i hi => absurd hi (Nat.not_lt_zero i), Ext.refl _⟩
  · rintro m vs w' ⟨k, rfl, hk, rfl, hup, hx⟩
    simp only [↓vsd, vsn, gW, qd, qv, ev, pick, argE, zipE, ne_eq, eq_self, forall_const, implies_true, if_true, if_false, reduceIte, reduceCtorEq, Nat.reduceEqDiff, Nat.reduceAdd, Nat.reduceLT, ↓us_iGoodPattern, r_iGoodPattern]
    ((repeat' (first | (with_reducible refine And.intro ?_ ?_) | intro _)) <;> (try first | omega | ((with_reducible refine inR_i64 ?_) <;> omega) | ((with_reducible refine inR_u8 ?_) <;> omega) | with_reducible assumption | exact Ext.refl _))
    · have hn : ¬ IsPat l := fun hr => by have := hr.1 k (by omega); unfold PatB at this; omega
      simp [hn]
    · exact ⟨_, Nat.lt_of_lt_of_le (show l.length - (k + 1) < l.length - k by omega) (Nat.le_refl _), k + 1, rfl, by omega, by simp, hup.succ (by unfold PatB; omega), hx⟩
    · refine m_call (iwithin_ok _ _ _ _) ?_
      rintro _ w1 hx1 rfl
      simp only [↓vsd, vsn, gW, qd, qv, ev, pick, argE, zipE, ne_eq, eq_self, forall_const, implies_true, if_true, if_false, reduceIte, reduceCtorEq, Nat.reduceEqDiff, Nat.reduceAdd, Nat.reduceLT, ↓us_iGoodPattern, r_iGoodPattern]
      refine ⟨hx.trans hx1, ?_⟩
      have hk' : k = l.length := by omega
      subst hk'
      simp only [IsPat, hup, true_and, Bool.decide_and]
      congr 1 <;> (apply decide_eq_decide.2; omega)
theorem sl16Good_ok (l : List UInt8) (hl : l.length ≤ 9223372036854775807) (w : World) : Fn 286 [S l] w (fun v _ => v = .bool (decide (IsPat l))) := by
  (refine callsV_of mix Try.func286 c_sl16Good ?_; simp only [↓vsd, vsn, gW, qd, qv, ev, pick, argE, zipE, ne_eq, eq_self, forall_const, implies_true, if_true, if_false, reduceIte, reduceCtorEq, Nat.reduceEqDiff, Nat.reduceAdd, Nat.reduceLT, ↓us_sl16Good, r_sl16Good])
  refine m_loop (fun m vs w' => ∃ k : Nat, m = l.length - k ∧ k ≤ l.length ∧ vs = [.int .i64 k] ∧ PatUp l k ∧ Ext w w') l.length ?_ ?_
  · exact ⟨0, by omega, by omega, rfl, fun i hi => absurd hi (Nat.not_lt_zero i), Ext.refl _⟩
  · rintro m vs w' ⟨k, rfl, hk, rfl, hup, hx⟩
    simp only [↓vsd, vsn, gW, qd, qv, ev, pick, argE, zipE, ne_eq, eq_self, forall_const, implies_true, if_true, if_false, reduceIte, reduceCtorEq, Nat.reduceEqDiff, Nat.reduceAdd, Nat.reduceLT, ↓us_sl16Good, r_sl16Good]
    ((repeat' (first | (with_reducible refine And.intro ?_ ?_) | intro _)) <;> (try first | omega | ((with_reducible refine inR_i64 ?_) <;> omega) | ((with_reducible refine inR_u8 ?_) <;> omega) | with_reducible assumption | exact Ext.refl _))
    · have hn : ¬ IsPat l := fun hr => by have := hr.1 k (by omega); unfold PatB at this; omega
      simp [hn]
    · exact ⟨_, Nat.lt_of_lt_of_le (show l.length - (k + 1) < l.length - k by omega) (Nat.le_refl _), k + 1, rfl, by omega, by simp, hup.succ (by unfold PatB; omega), hx⟩
    · refine m_call (sl1In_ok _ _ _ _) ?_
      rintro _ w1 hx1 rfl
      simp only [↓vsd, vsn, gW, qd, qv, ev, pick, argE, zipE, ne_eq, eq_self, forall_const, implies_true, if_true, if_false, reduceIte, reduceCtorEq, Nat.reduceEqDiff, Nat.reduceAdd, Nat.reduceLT, ↓us_sl16Good, r_sl16Good]
      refine ⟨hx.trans hx1, ?_⟩
      have hk' : k = l.length := by omega
      subst hk'
      simp only [IsPat, hup, true_and, Bool.decide_and]
      congr 1 <;> (apply decide_eq_decide.2; omega)
end Go.Proofs.Ytpnopboffalfnaa
