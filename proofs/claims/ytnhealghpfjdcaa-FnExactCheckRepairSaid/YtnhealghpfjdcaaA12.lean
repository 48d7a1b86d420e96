/-
  Regular methods; the calls of the laws FnExactIsRegular and FnExactTurnOf.
  Conditions: none.
-/
import Derived.Test.YtnhealghpfjdcaaA11
set_option linter.unusedSimpArgs false
set_option linter.unusedVariables false
set_option linter.defProp false
namespace Go.Proofs.Ytnhealghpfjdcaa
open Go Go.RowKit
section
variable (P : Program) (k : KT) (e : Env) (w : World)
abbrev b133_1 : X := (.seq (.reg [2] (.c (.q 3 [] (.lda 3 (.t 1))) (.c (.e (some 4) [] (.call false 104 [(.t 3)])) (.c (.q 5 [] (.mv (.t 4))) (.c (.q 6 [(5, true)] (.fa 1 (.t 1))) (.c (.q 7 [(5, true)] (.ld (.t 6))) (.c (.q 8 [(5, true)] (.bin .geq (.t 7) (.c (.int .i64 4)))) (.c (.q 9 [] (.pick (.t 5) (.t 8) (.c (.bool false)))) (.c (.q 2 [] (.mv (.t 9))) .nil))))))))) .ret)
def t133_1 := b133_1
theorem u133_1 : vcK P t133_1 k e w = vcK P b133_1 k e w := rfl
abbrev b133_0 : X := (.seq (.reg [1] (.c (.e (some 1) [] (.box 31 (.t 0))) (.c (.q 2 [] (.mv (.c (.bool false)))) .nil))) t133_1)
def x_iisLarge := b133_0
theorem u133_0 : vcK P x_iisLarge k e w = vcK P b133_0 k e w := rfl
def r_iisLarge : List XO := [(.mv (.t 2))]
theorem c_iisLarge : convF Try.prog [89, 116, 117, 121, 143, 161, 162, 163, 166, 168, 234] Try.f133 [([1], []), ([2], [])] = some (x_iisLarge, r_iisLarge) := by kernel_rfl
def us_iisLarge := aI @u133_0 @u133_1
abbrev b128_1 : X := (.seq (.reg [2] (.c (.q 3 [] (.lda 3 (.t 1))) (.c (.e (some 4) [] (.call false 106 [(.t 3)])) (.c (.q 5 [] (.mv (.t 4))) (.c (.q 6 [(5, true)] (.fa 1 (.t 1))) (.c (.q 7 [(5, true)] (.ld (.t 6))) (.c (.q 8 [(5, true)] (.bin .geq (.t 7) (.c (.int .i64 4)))) (.c (.q 9 [] (.pick (.t 5) (.t 8) (.c (.bool false)))) (.c (.q 2 [] (.mv (.t 9))) .nil))))))))) .ret)
def t128_1 := b128_1
theorem u128_1 : vcK P t128_1 k e w = vcK P b128_1 k e w := rfl
abbrev b128_0 : X := (.seq (.reg [1] (.c (.e (some 1) [] (.box 31 (.t 0))) (.c (.q 2 [] (.mv (.c (.bool false)))) .nil))) t128_1)
def x_sl15Good := b128_0
theorem u128_0 : vcK P x_sl15Good k e w = vcK P b128_0 k e w := rfl
def r_sl15Good : List XO := [(.mv (.t 2))]
theorem c_sl15Good : convF Try.prog [89, 116, 117, 121, 143, 161, 162, 163, 166, 168, 234] Try.f128 [([1], []), ([2], [])] = some (x_sl15Good, r_sl15Good) := by kernel_rfl
def us_sl15Good := aI @u128_0 @u128_1
end

/-- A valid method of stage 4 or more. -/
def IsLarge (nm : List UInt8) (st : Int) (cs : List (List UInt8)) : Prop := IsMethod nm st cs ∧ 4 ≤ st
instance (nm : List UInt8) (st : Int) (cs : List (List UInt8)) : Decidable (IsLarge nm st cs) := by unfold IsLarge; infer_instance
/-- The lead head turns the coursing order by n. -/
def TurnsBy (st : Nat) (h : List UInt8) (n : Nat) : Prop := h.getD 0 0 = 49 ∧ courseL h = (courseL (roundsL st)).drop n ++ (courseL (roundsL st)).take n
instance (st : Nat) (h : List UInt8) (n : Nat) : Decidable (TurnsBy st h n) := by unfold TurnsBy; infer_instance
/-- By how many bells, from n on; k: how many are left. -/
def turnGo (st : Nat) (h : List UInt8) : Nat → Nat → Nat
  | 0, _ => 0
  | k + 1, n => if TurnsBy st h n then n else turnGo st h k (n + 1)
def turnN (st : Nat) (h : List UInt8) : Nat := turnGo st h (st - 2) 1
theorem iisLarge_ok (nm : List UInt8) (st : Int) (v : Value) (cs : List (List UInt8)) (hnm : nm.length ≤ 1048576) (hs : ∀ c ∈ cs, c.length ≤ 1048576) (hl : cs.length ≤ 1000000000) (w : World) (h : Sq fS 1 w v cs) : Fn 133 [mV nm st v] w (fun r _ => r = .bool (decide (IsLarge nm st cs))) := by
  (refine callsV_of mix Try.func133 c_iisLarge ?_; simp only [↓vsd, vsn, gW, qd, qv, ev, pick, argE, zipE, ne_eq, eq_self, forall_const, implies_true, if_true, if_false, reduceIte, reduceCtorEq, Nat.reduceEqDiff, Nat.reduceAdd, Nat.reduceLT, ↓us_iisLarge, r_iisLarge])
  refine m_al ?_
  rintro b w1 hb hblk hx1 hs1
  have h1 : Blk w1 b (fM nm st v) 31 := hblk
  have hq1 := h.ext hx1
  simp only [↓vsd, vsn, gW, qd, qv, ev, pick, argE, zipE, ne_eq, eq_self, forall_const, implies_true, if_true, if_false, reduceIte, reduceCtorEq, Nat.reduceEqDiff, Nat.reduceAdd, Nat.reduceLT, ↓us_iisLarge, r_iisLarge, h1.facts, fMg]
  refine m_call (iGoodMethod_ok nm st v cs hnm hs hl _ hq1) ?_
  rintro _ w2 hx2 rfl
  have h2 := h1.ext hx2
  simp only [↓vsd, vsn, gW, qd, qv, ev, pick, argE, zipE, ne_eq, eq_self, forall_const, implies_true, if_true, if_false, reduceIte, reduceCtorEq, Nat.reduceEqDiff, Nat.reduceAdd, Nat.reduceLT, ↓us_iisLarge, r_iisLarge, h2.facts, fMg]
  refine ⟨hx1.trans hx2, ?_⟩
  simp only [← Bool.decide_and]
  rfl
theorem sl15Good_ok (nm : List UInt8) (st : Int) (v : Value) (cs : List (List UInt8)) (hnm : nm.length ≤ 1048576) (hs : ∀ c ∈ cs, c.length ≤ 1048576) (hl : cs.length ≤ 1000000000) (w : World) (h : Sq fS 1 w v cs) : Fn 128 [mV nm st v] w (fun r _ => r = .bool (decide (IsLarge nm st cs))) := by
  (refine callsV_of mix Try.func128 c_sl15Good ?_; simp only [↓vsd, vsn, gW, qd, qv, ev, pick, argE, zipE, ne_eq, eq_self, forall_const, implies_true, if_true, if_false, reduceIte, reduceCtorEq, Nat.reduceEqDiff, Nat.reduceAdd, Nat.reduceLT, ↓us_sl15Good, r_sl15Good])
  refine m_al ?_
  rintro b w1 hb hblk hx1 hs1
  have h1 : Blk w1 b (fM nm st v) 31 := hblk
  have hq1 := h.ext hx1
  simp only [↓vsd, vsn, gW, qd, qv, ev, pick, argE, zipE, ne_eq, eq_self, forall_const, implies_true, if_true, if_false, reduceIte, reduceCtorEq, Nat.reduceEqDiff, Nat.reduceAdd, Nat.reduceLT, ↓us_sl15Good, r_sl15Good, h1.facts, fMg]
  refine m_call (sl4Good_ok nm st v cs hnm hs hl _ hq1) ?_
  rintro _ w2 hx2 rfl
  have h2 := h1.ext hx2
  simp only [↓vsd, vsn, gW, qd, qv, ev, pick, argE, zipE, ne_eq, eq_self, forall_const, implies_true, if_true, if_false, reduceIte, reduceCtorEq, Nat.reduceEqDiff, Nat.reduceAdd, Nat.reduceLT, ↓us_sl15Good, r_sl15Good, h2.facts, fMg]
  refine ⟨hx1.trans hx2, ?_⟩
  simp only [← Bool.decide_and]
  rfl
/-- Is a method regular, and is the question one? -/
def regV (nm : List UInt8) (st : Int) (cs : List (List UInt8)) : Value := if IsLarge nm st cs then .tuple ⟨[.bool (decide (0 < turnN st.toNat (underL (roundsL st.toNat) cs))), .bool true]⟩ else .tuple ⟨[.bool false, .bool false]⟩
def turnV (nm : List UInt8) (st : Int) (cs : List (List UInt8)) : Value := if IsLarge nm st cs ∧ turnN st.toNat (underL (roundsL st.toNat) cs) ≠ 0 then .tuple ⟨[.int .i64 (turnN st.toNat (underL (roundsL st.toNat) cs) : Nat), .bool true]⟩ else .tuple ⟨[.int .i64 0, .bool false]⟩
end Go.Proofs.Ytnhealghpfjdcaa
