/-
  The rows of a touch, of both sides.
  Conditions: none.
-/
import Derived.Test.YthopbkemkfjebaaGreatKA33
import Derived.Test.YthopbkemkfjebaaGreatKA34
set_option linter.unusedSimpArgs false
set_option linter.unusedVariables false
set_option linter.defProp false
namespace Go.Proofs.YthopbkemkfjebaaGreat
open Go Go.RowKit
section
variable (P : Program) (k : KT) (e : Env) (w : World)
abbrev b71_1 : X := (.cond (.t 14) (.seq (.reg [6, 7] (.c (.q 6 [] (.mv (.c (.slice none 0 0)))) (.c (.q 7 [] (.mv (.c (.bool false)))) .nil))) .ret) .skip)
def t71_1 := b71_1
theorem u71_1 : vcK P t71_1 k e w = vcK P b71_1 k e w := rfl
abbrev b71_2 : X := (.seq (.drw [6, 7] (.c (.q 15 [] (.lda 3 (.t 3))) (.c (.q 16 [] (.lda 3 (.t 3))) (.c (.q 17 [] (.lda 2 (.t 4))) (.c (.q 18 [] (.mv (.t 2))) (.c (.q 20 [] (.mv (.t 2))) (.c (.q 21 [] (.len (.t 20))) (.c (.e (some 19) [] (.call false 104 [(.t 16), (.t 17), (.t 18)])) (.c (.q 22 [] (.ssl 1 (.t 19) none (some (.t 21)))) (.c (.e (some 23) [] (.call false 123 [(.t 15), (.t 22)])) (.c (.q 6 [] (.mv (.t 23))) (.c (.q 7 [] (.mv (.c (.bool true)))) .nil)))))))))))) .ret)
def t71_2 := b71_2
theorem u71_2 : vcK P t71_2 k e w = vcK P b71_2 k e w := rfl
abbrev b71_3 : X := (.seq (.seq (.reg [2, 3, 4, 14] (.c (.q 8 [] (.mv (.t 2))) (.c (.q 9 [] (.len (.t 8))) (.c (.q 10 [] (.fa 2 (.t 3))) (.c (.q 11 [] (.ld (.t 10))) (.c (.q 12 [] (.lens (.t 11))) (.c (.q 13 [] (.bin .mul (.t 9) (.t 12))) (.c (.q 14 [] (.bin .gtr (.t 13) (.c (.int .i64 800)))) .nil)))))))) t71_1) t71_2)
def t71_3 := b71_3
theorem u71_3 : vcK P t71_3 k e w = vcK P b71_3 k e w := rfl
abbrev b71_0 : X := (.seq (.reg [2, 3, 4] (.c (.e (some 3) [] (.box 25 (.t 0))) (.c (.e (some 4) [] (.box 27 (.t 1))) (.c (.q 6 [] (.mv (.c (.slice none 0 0)))) (.c (.q 7 [] (.mv (.c (.bool false)))) .nil))))) t71_3)
def x_itouchRows := b71_0
theorem u71_0 : vcK P x_itouchRows k e w = vcK P b71_0 k e w := rfl
def r_itouchRows : List XO := [(.mv (.t 6)), (.mv (.t 7))]
theorem c_itouchRows : convF Tryz.prog [56, 58, 59, 60, 61, 62, 72, 73, 77, 97, 98, 109, 110, 111, 112, 115, 128, 136] Tryz.f71 [([2, 3, 4], []), ([2, 3, 4, 14], []), ([6, 7], []), ([6, 7], [])] = some (x_itouchRows, r_itouchRows) := by kernel_rfl
def us_itouchRows :=  (aI (aI @u71_0 @u71_1) (aI @u71_2 @u71_3))
abbrev b17_1 : X := (.cond (.t 12) (.seq (.reg [6, 7] (.c (.q 6 [] (.mv (.c (.slice none 0 0)))) (.c (.q 7 [] (.mv (.c (.bool false)))) .nil))) .ret) .skip)
def t17_1 := b17_1
theorem u17_1 : vcK P t17_1 k e w = vcK P b17_1 k e w := rfl
abbrev b17_2 : X := (.seq (.reg [6, 7] (.c (.q 13 [] (.lda 3 (.t 3))) (.c (.q 14 [] (.lda 2 (.t 4))) (.c (.q 15 [] (.mv (.t 2))) (.c (.e (some 16) [] (.call false 71 [(.t 13), (.t 14), (.t 15)])) (.c (.q 17 [] (.ext 0 (.t 16))) (.c (.q 18 [] (.ext 1 (.t 16))) (.c (.q 6 [] (.mv (.t 17))) (.c (.q 7 [] (.mv (.t 18))) .nil))))))))) .ret)
def t17_2 := b17_2
theorem u17_2 : vcK P t17_2 k e w = vcK P b17_2 k e w := rfl
abbrev b17_3 : X := (.seq (.seq (.reg [2, 3, 4, 12] (.c (.q 8 [] (.lda 3 (.t 3))) (.c (.q 9 [] (.lda 2 (.t 4))) (.c (.q 10 [] (.mv (.t 2))) (.c (.e (some 11) [] (.call false 46 [(.t 8), (.t 9), (.t 10)])) (.c (.q 12 [] (.not (.t 11))) .nil)))))) t17_1) t17_2)
def t17_3 := b17_3
theorem u17_3 : vcK P t17_3 k e w = vcK P b17_3 k e w := rfl
abbrev b17_0 : X := (.seq (.reg [2, 3, 4] (.c (.e (some 3) [] (.box 25 (.t 0))) (.c (.e (some 4) [] (.box 27 (.t 1))) (.c (.q 6 [] (.mv (.c (.slice none 0 0)))) (.c (.q 7 [] (.mv (.c (.bool false)))) .nil))))) t17_3)
def x_iTouchRows := b17_0
theorem u17_0 : vcK P x_iTouchRows k e w = vcK P b17_0 k e w := rfl
def r_iTouchRows : List XO := [(.mv (.t 6)), (.mv (.t 7))]
theorem c_iTouchRows : convF Tryz.prog [56, 58, 59, 60, 61, 62, 72, 73, 77, 97, 98, 109, 110, 111, 112, 115, 128, 136] Tryz.f17 [([2, 3, 4], []), ([2, 3, 4, 12], []), ([6, 7], []), ([6, 7], [])] = some (x_iTouchRows, r_iTouchRows) := by kernel_rfl
def us_iTouchRows :=  (aI (aI @u17_0 @u17_1) (aI @u17_2 @u17_3))
end
/-- Are the rows of a touch asked, and not too many? -/
def RowsOk (nm : List UInt8) (st : Int) (cs : List (List UInt8)) (b s t : List UInt8) : Prop := IsMT nm st cs b s t ∧ t.length * cs.length ≤ 800
instance (nm : List UInt8) (st : Int) (cs : List (List UInt8)) (b s t : List UInt8) : Decidable (RowsOk nm st cs b s t) := by unfold RowsOk; infer_instance
def rowsT (st : Nat) (cs : List (List UInt8)) (b s t : List UInt8) : List (List UInt8) := leadsL cs (headsP st cs b s t t.length)
def rowsV (nm : List UInt8) (st : Int) (cs : List (List UInt8)) (b s t : List UInt8) : List (List UInt8) := if RowsOk nm st cs b s t then rowsT st.toNat cs b s t else []
theorem headsP_take (st : Nat) (cs : List (List UInt8)) (b s t : List UInt8) (k : Nat) : (headsP st cs b s t (k + 1)).take k = headsP st cs b s t k := by
  unfold headsP
  rw [← List.map_take, List.take_range, Nat.min_eq_left (by omega)]
theorem headsP_rows {nm : List UInt8} {st : Nat} {cs : List (List UInt8)} {b s : List UInt8} (h : IsMC nm st cs b s) (t : List UInt8) (k : Nat) : ∀ r ∈ headsP st cs b s t k, IsRow r := fun r hr => by
  obtain ⟨i, _, rfl⟩ := List.mem_map.1 hr
  exact (headP_row h t i).1
theorem itouchRows_ok (nm : List UInt8) (st : Nat) (v : Value) (cs : List (List UInt8)) (b s t : List UInt8) (hM : IsMT nm st cs b s t) (w : World) (h : Sq fS 1 w v cs) : Fn 71 [mV nm st v, kV b s, S t] w (fun r w' => ∃ x, r = .tuple ⟨[x, .bool (decide (RowsOk nm st cs b s t))]⟩ ∧ Own fS 1 9 w.heap.size w' x (rowsV nm st cs b s t)) := by
  have hcl := hM.1.1.2.2.1
  have ht60 := hM.2.1
  have hmul : t.length * cs.length ≤ 2400 := Nat.le_trans (Nat.mul_le_mul ht60.2 hcl.2) (by decide)
  have hmulI : (t.length : Int) * cs.length = ((t.length * cs.length : Nat) : Int) := (Int.natCast_mul _ _).symm
  (refine callsV_of mix Tryz.func71 c_itouchRows ?_; simp only [↓vsd, vsn, gW, qd, qv, ev, pick, argE, zipE, ne_eq, eq_self, forall_const, implies_true, if_true, if_false, reduceIte, reduceCtorEq, Nat.reduceEqDiff, Nat.reduceAdd, Nat.reduceLT, ↓us_itouchRows, r_itouchRows])
  refine m_al ?_
  rintro b1 w1 hb1 hblk1 hx1 hs1
  have h1 : Blk w1 b1 (fM nm st v) 25 := hblk1
  simp only [↓vsd, vsn, gW, qd, qv, ev, pick, argE, zipE, ne_eq, eq_self, forall_const, implies_true, if_true, if_false, reduceIte, reduceCtorEq, Nat.reduceEqDiff, Nat.reduceAdd, Nat.reduceLT, ↓us_itouchRows, r_itouchRows, h1.facts, fMg]
  refine m_al ?_
  rintro b2 w2 hb2 hblk2 hx2 hs2
  have h2 : Blk w2 b2 (fQ b s) 27 := hblk2
  have h12 := h1.ext hx2
  have hx12 := hx1.trans hx2
  have hq2 := h.ext hx12
  simp only [↓vsd, vsn, gW, qd, qv, ev, pick, argE, zipE, ne_eq, eq_self, forall_const, implies_true, if_true, if_false, reduceIte, reduceCtorEq, Nat.reduceEqDiff, Nat.reduceAdd, Nat.reduceLT, ↓us_itouchRows, r_itouchRows, h12.facts, h2.facts, fMg, fQg, hq2.facts]
  rw [hmulI]
  generalize hp : t.length * cs.length = p at *
  refine ⟨inR_i64 (by omega), fun hbig => ⟨hx12, ?_⟩, fun hsm => ?_⟩
  · have hn : ¬ RowsOk nm st cs b s t := fun hh => by have := hh.2; omega
    exact ⟨_, by rw [decide_eq_false hn], by rw [rowsV, if_neg hn]; exact Own.nil fS_len⟩
  · have hyes : RowsOk nm st cs b s t := ⟨hM, by omega⟩
    try refine m_call (iheads_ok nm st v cs b s t hM.1 ⟨hM.2.1.2, hM.2.2⟩ _ hq2) ?_
    try refine m_call (iheads_ok nm st v cs b s t hM.1 ⟨hM.2.1.2, hM.2.2⟩ _ (h.ext (dr hx12))) ?_
    rintro x w3 hx3 ho3
    have hx3 : Ext w2 w3 := by first | exact hx3 | exact ud hx3
    obtain ⟨hd, hoh, _⟩ := ho3.head .i64 t.length (by rw [headsP_len]; omega)
    rw [headsP_take] at hoh
    simp only [↓vsd, vsn, gW, qd, qv, ev, pick, argE, zipE, ne_eq, eq_self, forall_const, implies_true, if_true, if_false, reduceIte, reduceCtorEq, Nat.reduceEqDiff, Nat.reduceAdd, Nat.reduceLT, ↓us_itouchRows, r_itouchRows, hd]
    refine m_call (ileadsFrom_ok nm st v _ cs _ hM.1.1 (headsP_rows hM.1 t t.length) (by rw [headsP_len]; omega) _ (h.ext (hx12.trans hx3)) hoh.sq) ?_
    rintro y w4 hx4 ho4
    simp only [↓vsd, vsn, gW, qd, qv, ev, pick, argE, zipE, ne_eq, eq_self, forall_const, implies_true, if_true, if_false, reduceIte, reduceCtorEq, Nat.reduceEqDiff, Nat.reduceAdd, Nat.reduceLT, ↓us_itouchRows, r_itouchRows]
    exact ⟨(hx12.trans hx3).trans (by first | exact hx4 | exact ud hx4), y, by rw [decide_eq_true hyes], by rw [rowsV, if_pos hyes]; exact ho4.mono (hx12.trans hx3).size⟩
section
variable (nm : List UInt8) (st : Int) (v : Value) (cs : List (List UInt8)) (b s t : List UInt8) (hnm : nm.length ≤ 1048576) (hs : ∀ c ∈ cs, c.length ≤ 1048576) (hl : cs.length ≤ 1000000000) (hb : b.length ≤ 1048576 ∧ s.length ≤ 1048576) (ht : t.length ≤ 1000000000)
include hnm hs hl hb ht
theorem iTouchRows_ok (w : World) (h : Sq fS 1 w v cs) : Fn 17 [mV nm st v, kV b s, S t] w (fun r w' => ∃ x, r = .tuple ⟨[x, .bool (decide (RowsOk nm st cs b s t))]⟩ ∧ Own fS 1 9 w.heap.size w' x (rowsV nm st cs b s t)) := by
  (refine callsV_of mix Tryz.func17 c_iTouchRows ?_; simp only [↓vsd, vsn, gW, qd, qv, ev, pick, argE, zipE, ne_eq, eq_self, forall_const, implies_true, if_true, if_false, reduceIte, reduceCtorEq, Nat.reduceEqDiff, Nat.reduceAdd, Nat.reduceLT, ↓us_iTouchRows, r_iTouchRows])
  refine m_al ?_
  rintro b1 w1 hb1 hblk1 hx1 hs1
  have h1 : Blk w1 b1 (fM nm st v) 25 := hblk1
  simp only [↓vsd, vsn, gW, qd, qv, ev, pick, argE, zipE, ne_eq, eq_self, forall_const, implies_true, if_true, if_false, reduceIte, reduceCtorEq, Nat.reduceEqDiff, Nat.reduceAdd, Nat.reduceLT, ↓us_iTouchRows, r_iTouchRows, h1.facts, fMg]
  refine m_al ?_
  rintro b2 w2 hb2 hblk2 hx2 hs2
  have h2 : Blk w2 b2 (fQ b s) 27 := hblk2
  have h12 := h1.ext hx2
  have hx12 := hx1.trans hx2
  have hq2 := h.ext hx12
  simp only [↓vsd, vsn, gW, qd, qv, ev, pick, argE, zipE, ne_eq, eq_self, forall_const, implies_true, if_true, if_false, reduceIte, reduceCtorEq, Nat.reduceEqDiff, Nat.reduceAdd, Nat.reduceLT, ↓us_iTouchRows, r_iTouchRows, h12.facts, h2.facts, fMg, fQg, hq2.facts]
  refine m_call (igoodFor_ok nm st v cs b s t hnm hs hl hb ht _ (h.ext hx12)) ?_
  rintro _ w3 hx3 rfl
  have hx13 := hx12.trans hx3
  have h13 := h12.ext hx3
  have h23 := h2.ext hx3
  by_cases hM : IsMC nm st cs b s ∧ IsTch t
  · obtain ⟨n, rfl⟩ : ∃ n : Nat, st = n := ⟨st.toNat, by have := hM.1.1.2.1; omega⟩
    simp only [↓vsd, vsn, gW, qd, qv, ev, pick, argE, zipE, ne_eq, eq_self, forall_const, implies_true, if_true, if_false, reduceIte, reduceCtorEq, Nat.reduceEqDiff, Nat.reduceAdd, Nat.reduceLT, ↓us_iTouchRows, r_iTouchRows, hM, h13.facts, h23.facts, fMg, fQg]
    refine m_call (itouchRows_ok nm n v cs b s t hM _ (h.ext hx13)) ?_
    rintro _ w4 hx4 ⟨x, rfl, ho4⟩
    simp only [↓vsd, vsn, gW, qd, qv, ev, pick, argE, zipE, ne_eq, eq_self, forall_const, implies_true, if_true, if_false, reduceIte, reduceCtorEq, Nat.reduceEqDiff, Nat.reduceAdd, Nat.reduceLT, ↓us_iTouchRows, r_iTouchRows]
    exact ⟨hx13.trans hx4, x, rfl, ho4.mono hx13.size⟩
  · have hn : ¬ RowsOk nm st cs b s t := fun hh => hM hh.1
    simp only [↓vsd, vsn, gW, qd, qv, ev, pick, argE, zipE, ne_eq, eq_self, forall_const, implies_true, if_true, if_false, reduceIte, reduceCtorEq, Nat.reduceEqDiff, Nat.reduceAdd, Nat.reduceLT, ↓us_iTouchRows, r_iTouchRows, hM]
    exact ⟨hx13, _, by rw [decide_eq_false hn], by rw [rowsV, if_neg hn]; exact Own.nil fS_len⟩
end
end Go.Proofs.YthopbkemkfjebaaGreat
