/-
  The rows of a touch, of both sides.
  Conditions: none.
-/
import Derived.Test.YthopbkemkfjebaaGreatKA32
import Derived.Test.YthopbkemkfjebaaGreatKA34
set_option linter.unusedSimpArgs false
set_option linter.unusedVariables false
set_option linter.defProp false
namespace Go.Proofs.YthopbkemkfjebaaGreat
open Go Go.RowKit
section
variable (P : Program) (k : KT) (e : Env) (w : World)
abbrev b32_1 : X := (.cond (.t 12) (.seq (.reg [6, 7] (.c (.q 6 [] (.mv (.c (.slice none 0 0)))) (.c (.q 7 [] (.mv (.c (.bool false)))) .nil))) .ret) .skip)
def t32_1 := b32_1
theorem u32_1 : vcK P t32_1 k e w = vcK P b32_1 k e w := rfl
abbrev b32_2 : X := (.seq (.reg [6, 7] (.c (.q 13 [] (.lda 3 (.t 3))) (.c (.q 14 [] (.lda 2 (.t 4))) (.c (.q 15 [] (.mv (.t 2))) (.c (.e (some 16) [] (.call false 55 [(.t 13), (.t 14), (.t 15)])) (.c (.q 6 [] (.mv (.t 16))) (.c (.q 7 [] (.mv (.c (.bool true)))) .nil))))))) .ret)
def t32_2 := b32_2
theorem u32_2 : vcK P t32_2 k e w = vcK P b32_2 k e w := rfl
abbrev b32_3 : X := (.seq (.seq (.reg [2, 3, 4, 12] (.c (.q 8 [] (.lda 3 (.t 3))) (.c (.q 9 [] (.lda 2 (.t 4))) (.c (.q 10 [] (.mv (.t 2))) (.c (.e (some 11) [] (.call false 48 [(.t 8), (.t 9), (.t 10)])) (.c (.q 12 [] (.not (.t 11))) .nil)))))) t32_1) t32_2)
def t32_3 := b32_3
theorem u32_3 : vcK P t32_3 k e w = vcK P b32_3 k e w := rfl
abbrev b32_0 : X := (.seq (.reg [2, 3, 4] (.c (.e (some 3) [] (.box 25 (.t 0))) (.c (.e (some 4) [] (.box 27 (.t 1))) (.c (.q 6 [] (.mv (.c (.slice none 0 0)))) (.c (.q 7 [] (.mv (.c (.bool false)))) .nil))))) t32_3)
def x_sTouchHeads := b32_0
theorem u32_0 : vcK P x_sTouchHeads k e w = vcK P b32_0 k e w := rfl
def r_sTouchHeads : List XO := [(.mv (.t 6)), (.mv (.t 7))]
theorem c_sTouchHeads : convF Tryz.prog [56, 58, 59, 60, 61, 62, 72, 73, 77, 97, 98, 109, 110, 111, 112, 115, 128, 136] Tryz.f32 [([2, 3, 4], []), ([2, 3, 4, 12], []), ([6, 7], []), ([6, 7], [])] = some (x_sTouchHeads, r_sTouchHeads) := by kernel_rfl
def us_sTouchHeads :=  (aI (aI @u32_0 @u32_1) (aI @u32_2 @u32_3))
end
/-- Is a touch asked of a method and its calls? -/
def IsMT (nm : List UInt8) (st : Int) (cs : List (List UInt8)) (b s t : List UInt8) : Prop := IsMC nm st cs b s ∧ IsTch t
instance (nm : List UInt8) (st : Int) (cs : List (List UInt8)) (b s t : List UInt8) : Decidable (IsMT nm st cs b s t) := by unfold IsMT; infer_instance
def headsV (nm : List UInt8) (st : Int) (cs : List (List UInt8)) (b s t : List UInt8) : List (List UInt8) := if IsMT nm st cs b s t then headsP st.toNat cs b s t (t.length + 1) else []
section
variable (nm : List UInt8) (st : Int) (v : Value) (cs : List (List UInt8)) (b s t : List UInt8) (hnm : nm.length ≤ 1048576) (hs : ∀ c ∈ cs, c.length ≤ 1048576) (hl : cs.length ≤ 1000000000) (hb : b.length ≤ 1048576 ∧ s.length ≤ 1048576) (ht : t.length ≤ 1000000000)
include hnm hs hl hb ht
theorem sTouchHeads_ok (w : World) (h : Sq fS 1 w v cs) : Fn 32 [mV nm st v, kV b s, S t] w (fun r w' => ∃ x, r = .tuple ⟨[x, .bool (decide (IsMT nm st cs b s t))]⟩ ∧ Own fS 1 9 w.heap.size w' x (headsV nm st cs b s t)) := by
  (refine callsV_of mix Tryz.func32 c_sTouchHeads ?_; simp only [↓vsd, vsn, gW, qd, qv, ev, pick, argE, zipE, ne_eq, eq_self, forall_const, implies_true, if_true, if_false, reduceIte, reduceCtorEq, Nat.reduceEqDiff, Nat.reduceAdd, Nat.reduceLT, ↓us_sTouchHeads, r_sTouchHeads])
  refine m_al ?_
  rintro b1 w1 hb1 hblk1 hx1 hs1
  have h1 : Blk w1 b1 (fM nm st v) 25 := hblk1
  simp only [↓vsd, vsn, gW, qd, qv, ev, pick, argE, zipE, ne_eq, eq_self, forall_const, implies_true, if_true, if_false, reduceIte, reduceCtorEq, Nat.reduceEqDiff, Nat.reduceAdd, Nat.reduceLT, ↓us_sTouchHeads, r_sTouchHeads, h1.facts, fMg]
  refine m_al ?_
  rintro b2 w2 hb2 hblk2 hx2 hs2
  have h2 : Blk w2 b2 (fQ b s) 27 := hblk2
  have h12 := h1.ext hx2
  have hx12 := hx1.trans hx2
  simp only [↓vsd, vsn, gW, qd, qv, ev, pick, argE, zipE, ne_eq, eq_self, forall_const, implies_true, if_true, if_false, reduceIte, reduceCtorEq, Nat.reduceEqDiff, Nat.reduceAdd, Nat.reduceLT, ↓us_sTouchHeads, r_sTouchHeads, h12.facts, h2.facts, fMg, fQg]
  refine m_call (sl9Asked_ok nm st v cs b s t hnm hs hl hb ht _ (h.ext hx12)) ?_
  rintro _ w3 hx3 rfl
  have hx13 := hx12.trans hx3
  have h13 := h12.ext hx3
  have h23 := h2.ext hx3
  by_cases hM : IsMC nm st cs b s ∧ IsTch t
  · obtain ⟨n, rfl⟩ : ∃ n : Nat, st = n := ⟨st.toNat, by have := hM.1.1.2.1; omega⟩
    simp only [↓vsd, vsn, gW, qd, qv, ev, pick, argE, zipE, ne_eq, eq_self, forall_const, implies_true, if_true, if_false, reduceIte, reduceCtorEq, Nat.reduceEqDiff, Nat.reduceAdd, Nat.reduceLT, ↓us_sTouchHeads, r_sTouchHeads, hM, h13.facts, h23.facts, fMg, fQg]
    refine m_call (sl9Heads_ok nm n v cs b s t hM.1 hM.2.1.2 _ (h.ext hx13)) ?_
    rintro x w4 hx4 ho4
    simp only [↓vsd, vsn, gW, qd, qv, ev, pick, argE, zipE, ne_eq, eq_self, forall_const, implies_true, if_true, if_false, reduceIte, reduceCtorEq, Nat.reduceEqDiff, Nat.reduceAdd, Nat.reduceLT, ↓us_sTouchHeads, r_sTouchHeads]
    exact ⟨hx13.trans hx4, x, by rw [decide_eq_true (show IsMT nm n cs b s t from hM)], by rw [headsV, if_pos (show IsMT nm n cs b s t from hM)]; exact ho4.mono hx13.size⟩
  · simp only [↓vsd, vsn, gW, qd, qv, ev, pick, argE, zipE, ne_eq, eq_self, forall_const, implies_true, if_true, if_false, reduceIte, reduceCtorEq, Nat.reduceEqDiff, Nat.reduceAdd, Nat.reduceLT, ↓us_sTouchHeads, r_sTouchHeads, hM]
    exact ⟨hx13, _, by rw [decide_eq_false (show ¬ IsMT nm st cs b s t from hM)], by rw [headsV, if_neg (show ¬ IsMT nm st cs b s t from hM)]; exact Own.nil fS_len⟩
end
section
variable (nm : List UInt8) (st : Int) (v : Value) (cs : List (List UInt8)) (b s t : List UInt8) (hnm : nm.length ≤ 1048576) (hs : ∀ c ∈ cs, c.length ≤ 1048576) (hl : cs.length ≤ 1000000000) (hb : b.length ≤ 1048576 ∧ s.length ≤ 1048576) (ht : t.length ≤ 1000000000)
include hnm hs hl hb ht
end
end Go.Proofs.YthopbkemkfjebaaGreat
namespace Go.Proofs.YthopbkemkfjebaaGreat
open Go Go.RowKit
theorem headsP_take (st : Nat) (cs : List (List UInt8)) (b s t : List UInt8) (k : Nat) : (headsP st cs b s t (k + 1)).take k = headsP st cs b s t k := by
  unfold headsP
  rw [← List.map_take, List.take_range, Nat.min_eq_left (by omega)]
section
variable (nm : List UInt8) (st : Int) (v : Value) (cs : List (List UInt8)) (b s t : List UInt8) (hnm : nm.length ≤ 1048576) (hs : ∀ c ∈ cs, c.length ≤ 1048576) (hl : cs.length ≤ 1000000000) (hb : b.length ≤ 1048576 ∧ s.length ≤ 1048576) (ht : t.length ≤ 1000000000)
include hnm hs hl hb ht
end
end Go.Proofs.YthopbkemkfjebaaGreat
