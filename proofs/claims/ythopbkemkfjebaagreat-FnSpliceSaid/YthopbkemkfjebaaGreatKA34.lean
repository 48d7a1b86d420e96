/-
  The rows of leads, of both sides.
  Conditions: none.
-/
import Derived.Test.YthopbkemkfjebaaGreatKA11
import Derived.Test.YthopbkemkfjebaaGreatKA25
set_option linter.unusedSimpArgs false
set_option linter.unusedVariables false
set_option linter.defProp false
namespace Go.Proofs.YthopbkemkfjebaaGreat
open Go Go.RowKit
section
variable (P : Program) (k : KT) (e : Env) (w : World)
abbrev b95_1 : X := (.seq (.drw [4] (.c (.q 5 [] (.mv (.t 1))) (.c (.q 6 [] (.fa 2 (.t 2))) (.c (.q 7 [] (.ld (.t 6))) (.c (.q 9 [] (.fa 2 (.t 2))) (.c (.q 10 [] (.ld (.t 9))) (.c (.q 11 [] (.lens (.t 10))) (.c (.e (some 8) [] (.call false 135 [(.t 5), (.t 7)])) (.c (.q 12 [] (.ssl 1 (.t 8) none (some (.t 11)))) (.c (.q 4 [] (.mv (.t 12))) .nil)))))))))) .ret)
def t95_1 := b95_1
theorem u95_1 : vcK P t95_1 k e w = vcK P b95_1 k e w := rfl
abbrev b95_0 : X := (.seq (.reg [1, 2] (.c (.e (some 2) [] (.box 25 (.t 0))) (.c (.q 4 [] (.mv (.c (.slice none 0 0)))) .nil))) t95_1)
def x_ileadRows := b95_0
theorem u95_0 : vcK P x_ileadRows k e w = vcK P b95_0 k e w := rfl
def r_ileadRows : List XO := [(.mv (.t 4))]
theorem c_ileadRows : convF Tryz.prog [56, 58, 59, 60, 61, 62, 72, 73, 77, 97, 98, 109, 110, 111, 112, 115, 128, 136] Tryz.f95 [([1, 2], []), ([4], [])] = some (x_ileadRows, r_ileadRows) := by kernel_rfl
def us_ileadRows :=  (aI @u95_0 @u95_1)
abbrev b69_1 : X := (.seq (.reg [4] (.c (.q 14 [] (.mv (.t 5))) (.c (.q 4 [] (.mv (.t 14))) .nil))) .ret)
def t69_1 := b69_1
theorem u69_1 : vcK P t69_1 k e w = vcK P b69_1 k e w := rfl
abbrev b69_2 : X := (.seq (.reg [5] (.c (.q 8 [] (.fa 2 (.t 2))) (.c (.q 9 [] (.ld (.t 8))) (.c (.q 10 [] (.mv (.t 1))) (.c (.e (some 11) [] (.call false 122 [(.t 9), (.t 10)])) (.c (.q 7 [] (.mv (.t 11))) (.c (.q 12 [] (.ext 0 (.t 7))) (.c (.q 13 [] (.ext 1 (.t 7))) (.c (.q 5 [] (.mv (.t 12))) (.c (.q 6 [] (.mv (.t 13))) .nil)))))))))) t69_1)
def t69_2 := b69_2
theorem u69_2 : vcK P t69_2 k e w = vcK P b69_2 k e w := rfl
abbrev b69_0 : X := (.seq (.reg [1, 2] (.c (.e (some 2) [] (.box 25 (.t 0))) (.c (.q 4 [] (.mv (.c (.slice none 0 0)))) .nil))) t69_2)
def x_sl11Lead := b69_0
theorem u69_0 : vcK P x_sl11Lead k e w = vcK P b69_0 k e w := rfl
def r_sl11Lead : List XO := [(.mv (.t 4))]
theorem c_sl11Lead : convF Tryz.prog [56, 58, 59, 60, 61, 62, 72, 73, 77, 97, 98, 109, 110, 111, 112, 115, 128, 136] Tryz.f69 [([1, 2], []), ([5], []), ([4], [])] = some (x_sl11Lead, r_sl11Lead) := by kernel_rfl
def us_sl11Lead :=  (aI @u69_0 (aI @u69_1 @u69_2))
end
theorem rowsU_take (l : List UInt8) (cs : List (List UInt8)) (k : Nat) : (rowsU l cs (k + 1)).take k = rowsU l cs k := by
  unfold rowsU
  rw [← List.map_take, List.take_range, Nat.min_eq_left (by omega)]
theorem ileadRows_ok (nm : List UInt8) (st : Nat) (v : Value) (cs : List (List UInt8)) (l : List UInt8) (hm : IsMethod nm st cs) (hr : IsRow l) (w : World) (h : Sq fS 1 w v cs) : Fn 95 [mV nm st v, S l] w (fun r w' => Own fS 1 9 w.heap.size w' r (rowsU l cs cs.length)) := by
  (refine callsV_of mix Tryz.func95 c_ileadRows ?_; simp only [↓vsd, vsn, gW, qd, qv, ev, pick, argE, zipE, ne_eq, eq_self, forall_const, implies_true, if_true, if_false, reduceIte, reduceCtorEq, Nat.reduceEqDiff, Nat.reduceAdd, Nat.reduceLT, ↓us_ileadRows, r_ileadRows])
  refine m_al ?_
  rintro b1 w1 hb1 hblk1 hx1 hs1
  have h1 : Blk w1 b1 (fM nm st v) 25 := hblk1
  have hcl := hm.2.2.1
  have hq := h.ext hx1
  simp only [↓vsd, vsn, gW, qd, qv, ev, pick, argE, zipE, ne_eq, eq_self, forall_const, implies_true, if_true, if_false, reduceIte, reduceCtorEq, Nat.reduceEqDiff, Nat.reduceAdd, Nat.reduceLT, ↓us_ileadRows, r_ileadRows, h1.facts, fMg, hq.facts]
  try refine m_call (irowsUnder_ok l v cs st hr hm.2.2.2 hm.2.2.1.2 _ hq) ?_
  try refine m_call (irowsUnder_ok l v cs st hr hm.2.2.2 hm.2.2.1.2 _ (h.ext (dr hx1))) ?_
  rintro x w2 hx2 ho2
  have hx2 : Ext w1 w2 := by first | exact hx2 | exact ud hx2
  have h2 := h1.ext hx2
  have hq2 := hq.ext hx2
  obtain ⟨hd, hoh, _⟩ := ho2.head .i64 cs.length (by rw [rowsU_len]; omega)
  rw [rowsU_take] at hoh
  simp only [↓vsd, vsn, gW, qd, qv, ev, pick, argE, zipE, ne_eq, eq_self, forall_const, implies_true, if_true, if_false, reduceIte, reduceCtorEq, Nat.reduceEqDiff, Nat.reduceAdd, Nat.reduceLT, ↓us_ileadRows, r_ileadRows, h1.facts, h2.facts, fMg, hq.facts, hq2.facts, hd]
  exact ⟨hx1.trans hx2, hoh.mono hx1.size⟩
theorem sl11Lead_ok (nm : List UInt8) (st : Nat) (v : Value) (cs : List (List UInt8)) (l : List UInt8) (hm : IsMethod nm st cs) (hr : IsRow l) (w : World) (h : Sq fS 1 w v cs) : Fn 69 [mV nm st v, S l] w (fun r w' => Own fS 1 9 w.heap.size w' r (rowsU l cs cs.length)) := by
  (refine callsV_of mix Tryz.func69 c_sl11Lead ?_; simp only [↓vsd, vsn, gW, qd, qv, ev, pick, argE, zipE, ne_eq, eq_self, forall_const, implies_true, if_true, if_false, reduceIte, reduceCtorEq, Nat.reduceEqDiff, Nat.reduceAdd, Nat.reduceLT, ↓us_sl11Lead, r_sl11Lead])
  refine m_al ?_
  rintro b1 w1 hb1 hblk1 hx1 hs1
  have h1 : Blk w1 b1 (fM nm st v) 25 := hblk1
  simp only [↓vsd, vsn, gW, qd, qv, ev, pick, argE, zipE, ne_eq, eq_self, forall_const, implies_true, if_true, if_false, reduceIte, reduceCtorEq, Nat.reduceEqDiff, Nat.reduceAdd, Nat.reduceLT, ↓us_sl11Lead, r_sl11Lead, h1.facts, fMg]
  refine m_call (sl4Lead_ok l v cs st hr hm.2.2.2 hm.2.2.1.2 _ (h.ext hx1)) ?_
  rintro _ w2 hx2 ⟨x, rfl, ho2⟩
  simp only [↓vsd, vsn, gW, qd, qv, ev, pick, argE, zipE, ne_eq, eq_self, forall_const, implies_true, if_true, if_false, reduceIte, reduceCtorEq, Nat.reduceEqDiff, Nat.reduceAdd, Nat.reduceLT, ↓us_sl11Lead, r_sl11Lead]
  exact ⟨hx1.trans hx2, ho2.mono hx1.size⟩
end Go.Proofs.YthopbkemkfjebaaGreat
