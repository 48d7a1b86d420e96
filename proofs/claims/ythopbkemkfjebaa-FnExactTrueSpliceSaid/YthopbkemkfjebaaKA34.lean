/-
  The rows of leads, of both sides.
  Conditions: none.
-/
import Derived.Test.YthopbkemkfjebaaKA11
import Derived.Test.YthopbkemkfjebaaKVw
set_option linter.unusedSimpArgs false
set_option linter.unusedVariables false
set_option linter.defProp false
namespace Go.Proofs.Ythopbkemkfjebaa
open Go Go.RowKit
section
variable (P : Program) (k : KT) (e : Env) (w : World)
abbrev b159_1 : X := (.seq (.drw [4] (.c (.q 5 [] (.mv (.t 1))) (.c (.q 6 [] (.fa 2 (.t 2))) (.c (.q 7 [] (.ld (.t 6))) (.c (.q 9 [] (.fa 2 (.t 2))) (.c (.q 10 [] (.ld (.t 9))) (.c (.q 11 [] (.lens (.t 10))) (.c (.e (some 8) [] (.call false 190 [(.t 5), (.t 7)])) (.c (.q 12 [] (.ssl 1 (.t 8) none (some (.t 11)))) (.c (.q 4 [] (.mv (.t 12))) .nil)))))))))) .ret)
def t159_1 := b159_1
theorem u159_1 : vcK P t159_1 k e w = vcK P b159_1 k e w := rfl
abbrev b159_0 : X := (.seq (.reg [1, 2] (.c (.e (some 2) [] (.box 68 (.t 0))) (.c (.q 4 [] (.mv (.c (.slice none 0 0)))) .nil))) t159_1)
def x_ileadRows := b159_0
theorem u159_0 : vcK P x_ileadRows k e w = vcK P b159_0 k e w := rfl
def r_ileadRows : List XO := [(.mv (.t 4))]
theorem c_ileadRows : convF Try.prog [54, 55, 58, 69, 70, 71, 72, 73, 84, 89, 94, 95, 113, 114, 115, 130, 134, 143, 146, 161] Try.f159 [([1, 2], []), ([4], [])] = some (x_ileadRows, r_ileadRows) := by kernel_rfl
def us_ileadRows :=  (aI @u159_0 @u159_1)
abbrev b153_1 : X := (.seq (.reg [4] (.c (.q 14 [] (.mv (.t 5))) (.c (.q 4 [] (.mv (.t 14))) .nil))) .ret)
def t153_1 := b153_1
theorem u153_1 : vcK P t153_1 k e w = vcK P b153_1 k e w := rfl
abbrev b153_2 : X := (.seq (.reg [5] (.c (.q 8 [] (.fa 2 (.t 2))) (.c (.q 9 [] (.ld (.t 8))) (.c (.q 10 [] (.mv (.t 1))) (.c (.e (some 11) [] (.call false 165 [(.t 9), (.t 10)])) (.c (.q 7 [] (.mv (.t 11))) (.c (.q 12 [] (.ext 0 (.t 7))) (.c (.q 13 [] (.ext 1 (.t 7))) (.c (.q 5 [] (.mv (.t 12))) (.c (.q 6 [] (.mv (.t 13))) .nil)))))))))) t153_1)
def t153_2 := b153_2
theorem u153_2 : vcK P t153_2 k e w = vcK P b153_2 k e w := rfl
abbrev b153_0 : X := (.seq (.reg [1, 2] (.c (.e (some 2) [] (.box 68 (.t 0))) (.c (.q 4 [] (.mv (.c (.slice none 0 0)))) .nil))) t153_2)
def x_sl11Lead := b153_0
theorem u153_0 : vcK P x_sl11Lead k e w = vcK P b153_0 k e w := rfl
def r_sl11Lead : List XO := [(.mv (.t 4))]
theorem c_sl11Lead : convF Try.prog [54, 55, 58, 69, 70, 71, 72, 73, 84, 89, 94, 95, 113, 114, 115, 130, 134, 143, 146, 161] Try.f153 [([1, 2], []), ([5], []), ([4], [])] = some (x_sl11Lead, r_sl11Lead) := by kernel_rfl
def us_sl11Lead :=  (aI @u153_0 (aI @u153_1 @u153_2))
end
theorem rowsU_take (l : List UInt8) (cs : List (List UInt8)) (k : Nat) : (rowsU l cs (k + 1)).take k = rowsU l cs k := by
  unfold rowsU
  rw [← List.map_take, List.take_range, Nat.min_eq_left (by omega)]
theorem ileadRows_ok (nm : List UInt8) (st : Nat) (v : Value) (cs : List (List UInt8)) (l : List UInt8) (hm : IsMethod nm st cs) (hr : IsRow l) (w : World) (h : Sq fS 1 w v cs) : Fn 159 [mV nm st v, S l] w (fun r w' => Own fS 1 9 w.heap.size w' r (rowsU l cs cs.length)) := by
  (refine callsV_of mix Try.func159 c_ileadRows ?_; simp only [↓vsd, vsn, gW, qd, qv, ev, pick, argE, zipE, ne_eq, eq_self, forall_const, implies_true, if_true, if_false, reduceIte, reduceCtorEq, Nat.reduceEqDiff, Nat.reduceAdd, Nat.reduceLT, ↓us_ileadRows, r_ileadRows])
  refine m_al ?_
  rintro b1 w1 hb1 hblk1 hx1 hs1
  have h1 : Blk w1 b1 (fM nm st v) 68 := hblk1
  have hcl := hm.2.2.1
  have hq := h.ext hx1
  simp only [↓vsd, vsn, gW, qd, qv, ev, pick, argE, zipE, ne_eq, eq_self, forall_const, implies_true, if_true, if_false, reduceIte, reduceCtorEq, Nat.reduceEqDiff, Nat.reduceAdd, Nat.reduceLT, ↓us_ileadRows, r_ileadRows, h1.facts, fMg, hq.facts]
  try refine m_call (irowsUnder_ok l v cs st hr hm.2.2.2 hm.2.2.1.2 _ hq) ?_
  try refine m_call (irowsUnder_ok l v cs st hr hm.2.2.2 hm.2.2.1.2 _ (h.ext (dr hx1))) ?_
  rintro x w2 hx2 ho2
  have hx2 : Ext w1 w2 := by first | exact hx2 | exact ud hx2
  have h2 := h1.ext hx2
  have hq2 := hq.ext hx2
  obtain ⟨hd, hoh, _⟩ := ho2.head .i64 cs.length (by rw [rowsU_len]; omega)
  rw [rowsU_take] at hoh
  simp only [↓vsd, vsn, gW, qd, qv, ev, pick, argE, zipE, ne_eq, eq_self, forall_const, implies_true, if_true, if_false, reduceIte, reduceCtorEq, Nat.reduceEqDiff, Nat.reduceAdd, Nat.reduceLT, ↓us_ileadRows, r_ileadRows, h1.facts, h2.facts, fMg, hq.facts, hq2.facts, hd]
  exact ⟨hx1.trans hx2, hoh.mono hx1.size⟩
theorem sl11Lead_ok (nm : List UInt8) (st : Nat) (v : Value) (cs : List (List UInt8)) (l : List UInt8) (hm : IsMethod nm st cs) (hr : IsRow l) (w : World) (h : Sq fS 1 w v cs) : Fn 153 [mV nm st v, S l] w (fun r w' => Own fS 1 9 w.heap.size w' r (rowsU l cs cs.length)) := by
  (refine callsV_of mix Try.func153 c_sl11Lead ?_; simp only [↓vsd, vsn, gW, qd, qv, ev, pick, argE, zipE, ne_eq, eq_self, forall_const, implies_true, if_true, if_false, reduceIte, reduceCtorEq, Nat.reduceEqDiff, Nat.reduceAdd, Nat.reduceLT, ↓us_sl11Lead, r_sl11Lead])
  refine m_al ?_
  rintro b1 w1 hb1 hblk1 hx1 hs1
  have h1 : Blk w1 b1 (fM nm st v) 68 := hblk1
  simp only [↓vsd, vsn, gW, qd, qv, ev, pick, argE, zipE, ne_eq, eq_self, forall_const, implies_true, if_true, if_false, reduceIte, reduceCtorEq, Nat.reduceEqDiff, Nat.reduceAdd, Nat.reduceLT, ↓us_sl11Lead, r_sl11Lead, h1.facts, fMg]
  refine m_call (sl4Lead_ok l v cs st hr hm.2.2.2 hm.2.2.1.2 _ (h.ext hx1)) ?_
  rintro _ w2 hx2 ⟨x, rfl, ho2⟩
  simp only [↓vsd, vsn, gW, qd, qv, ev, pick, argE, zipE, ne_eq, eq_self, forall_const, implies_true, if_true, if_false, reduceIte, reduceCtorEq, Nat.reduceEqDiff, Nat.reduceAdd, Nat.reduceLT, ↓us_sl11Lead, r_sl11Lead]
  exact ⟨hx1.trans hx2, ho2.mono hx1.size⟩
end Go.Proofs.Ythopbkemkfjebaa
