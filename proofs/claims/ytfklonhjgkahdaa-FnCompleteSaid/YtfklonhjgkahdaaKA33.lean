/-
  The end of a touch, of both sides.
  Conditions: none.
-/
import Derived.Test.YtfklonhjgkahdaaKA32
set_option linter.unusedSimpArgs false
set_option linter.unusedVariables false
set_option linter.defProp false
namespace Go.Proofs.Ytfklonhjgkahdaa
open Go Go.RowKit
section
variable (P : Program) (k : KT) (e : Env) (w : World)
abbrev b67_1 : X := (.seq (.reg [6] (.c (.q 7 [] (.lda 3 (.t 3))) (.c (.q 8 [] (.lda 2 (.t 4))) (.c (.q 9 [] (.mv (.t 2))) (.c (.e (some 10) [] (.call false 93 [(.t 7), (.t 8), (.t 9)])) (.c (.q 11 [] (.mv (.t 2))) (.c (.q 12 [] (.len (.t 11))) (.c (.q 13 [] (.ia 1 (.t 10) (.t 12))) (.c (.q 14 [] (.ld (.t 13))) (.c (.q 6 [] (.mv (.t 14))) .nil)))))))))) .ret)
def t67_1 := b67_1
theorem u67_1 : vcK P t67_1 k e w = vcK P b67_1 k e w := rfl
abbrev b67_0 : X := (.seq (.reg [2, 3, 4] (.c (.e (some 3) [] (.box 44 (.t 0))) (.c (.e (some 4) [] (.box 46 (.t 1))) (.c (.q 6 [] (.mv (.s []))) .nil)))) t67_1)
def x_sl9End := b67_0
theorem u67_0 : vcK P x_sl9End k e w = vcK P b67_0 k e w := rfl
def r_sl9End : List XO := [(.mv (.t 6))]
theorem c_sl9End : convF Try.prog [38, 39, 41, 42, 49, 54, 55, 57, 58, 59, 73, 79, 81, 84, 87, 139] Try.f67 [([2, 3, 4], []), ([6], [])] = some (x_sl9End, r_sl9End) := by kernel_rfl
def us_sl9End :=  (aI @u67_0 @u67_1)
end
/-- Is a touch asked of a method and its calls? -/
def IsMT (nm : List UInt8) (st : Int) (cs : List (List UInt8)) (b s t : List UInt8) : Prop := IsMC nm st cs b s ∧ IsTch t
instance (nm : List UInt8) (st : Int) (cs : List (List UInt8)) (b s t : List UInt8) : Decidable (IsMT nm st cs b s t) := by unfold IsMT; infer_instance
section
variable (nm : List UInt8) (st : Int) (v : Value) (cs : List (List UInt8)) (b s t : List UInt8) (hnm : nm.length ≤ 1048576) (hs : ∀ c ∈ cs, c.length ≤ 1048576) (hl : cs.length ≤ 1000000000) (hb : b.length ≤ 1048576 ∧ s.length ≤ 1048576) (ht : t.length ≤ 1000000000)
include hnm hs hl hb ht
end
theorem sl9End_ok (nm : List UInt8) (st : Nat) (v : Value) (cs : List (List UInt8)) (b s t : List UInt8) (hM : IsMT nm st cs b s t) (w : World) (h : Sq fS 1 w v cs) : Fn 67 [mV nm st v, kV b s, S t] w (fun r _ => r = S (headP st cs b s t t.length)) := by
  (refine callsV_of mix Try.func67 c_sl9End ?_; simp only [↓vsd, vsn, gW, qd, qv, ev, pick, argE, zipE, ne_eq, eq_self, forall_const, implies_true, if_true, if_false, reduceIte, reduceCtorEq, Nat.reduceEqDiff, Nat.reduceAdd, Nat.reduceLT, ↓us_sl9End, r_sl9End])
  refine m_al ?_
  rintro b1 w1 hb1 hblk1 hx1 hs1
  have h1 : Blk w1 b1 (fM nm st v) 44 := hblk1
  simp only [↓vsd, vsn, gW, qd, qv, ev, pick, argE, zipE, ne_eq, eq_self, forall_const, implies_true, if_true, if_false, reduceIte, reduceCtorEq, Nat.reduceEqDiff, Nat.reduceAdd, Nat.reduceLT, ↓us_sl9End, r_sl9End, h1.facts, fMg]
  refine m_al ?_
  rintro b2 w2 hb2 hblk2 hx2 hs2
  have h2 : Blk w2 b2 (fQ b s) 46 := hblk2
  have h12 := h1.ext hx2
  have hx12 := hx1.trans hx2
  simp only [↓vsd, vsn, gW, qd, qv, ev, pick, argE, zipE, ne_eq, eq_self, forall_const, implies_true, if_true, if_false, reduceIte, reduceCtorEq, Nat.reduceEqDiff, Nat.reduceAdd, Nat.reduceLT, ↓us_sl9End, r_sl9End, h12.facts, h2.facts, fMg, fQg]
  refine m_call (sl9Heads_ok nm st v cs b s t hM.1 hM.2.1.2 _ (h.ext hx12)) ?_
  rintro x w4 hx4 ho4
  have hlt : t.length < (headsP st cs b s t (t.length + 1)).length := by rw [headsP_len]; omega
  have hg := headsP_get st cs b s t (t.length + 1) t.length (by omega)
  simp only [↓vsd, vsn, gW, qd, qv, ev, pick, argE, zipE, ne_eq, eq_self, forall_const, implies_true, if_true, if_false, reduceIte, reduceCtorEq, Nat.reduceEqDiff, Nat.reduceAdd, Nat.reduceLT, ↓us_sl9End, r_sl9End, ho4.sq.facts, headsP_len, ho4.sq.at1 [] hlt, hg]
  exact ⟨by omega, hx12.trans hx4⟩
section
variable (nm : List UInt8) (st : Int) (v : Value) (cs : List (List UInt8)) (b s t : List UInt8) (hnm : nm.length ≤ 1048576) (hs : ∀ c ∈ cs, c.length ≤ 1048576) (hl : cs.length ≤ 1000000000) (hb : b.length ≤ 1048576 ∧ s.length ≤ 1048576) (ht : t.length ≤ 1000000000)
include hnm hs hl hb ht
end
end Go.Proofs.Ytfklonhjgkahdaa
