/-
  The rows of leads, of both sides.
  Conditions: none.
-/
import Derived.Test.YtnincmnkdjlndaaA11
import Derived.Test.YtnincmnkdjlndaaVw
set_option linter.unusedSimpArgs false
set_option linter.unusedVariables false
set_option linter.defProp false
namespace Go.Proofs.Ytnincmnkdjlndaa
open Go Go.RowKit
section
variable (P : Program) (k : KT) (e : Env) (w : World)
abbrev b145_1 : X := (.seq (.drw [4] (.c (.q 5 [] (.mv (.t 1))) (.c (.q 6 [] (.fa 2 (.t 2))) (.c (.q 7 [] (.ld (.t 6))) (.c (.q 9 [] (.fa 2 (.t 2))) (.c (.q 10 [] (.ld (.t 9))) (.c (.q 11 [] (.lens (.t 10))) (.c (.e (some 8) [] (.call false 255 [(.t 5), (.t 7)])) (.c (.q 12 [] (.ssl 1 (.t 8) none (some (.t 11)))) (.c (.q 4 [] (.mv (.t 12))) .nil)))))))))) .ret)
def t145_1 := b145_1
theorem u145_1 : vcK P t145_1 k e w = vcK P b145_1 k e w := rfl
abbrev b145_0 : X := (.seq (.reg [1, 2] (.c (.e (some 2) [] (.box 26 (.t 0))) (.c (.q 4 [] (.mv (.c (.slice none 0 0)))) .nil))) t145_1)
def x_ileadRows := b145_0
theorem u145_0 : vcK P x_ileadRows k e w = vcK P b145_0 k e w := rfl
def r_ileadRows : List XO := [(.mv (.t 4))]
theorem c_ileadRows : convF Try.prog [147, 148, 152, 160, 162, 163, 170, 178, 206, 208, 210, 224, 233, 235, 236, 251, 264, 265, 268, 270, 287, 322] Try.f145 [([1, 2], []), ([4], [])] = some (x_ileadRows, r_ileadRows) := by kernel_rfl
def us_ileadRows :=  (aI @u145_0 @u145_1)
abbrev b296_1 : X := (.seq (.reg [4] (.c (.q 14 [] (.mv (.t 5))) (.c (.q 4 [] (.mv (.t 14))) .nil))) .ret)
def t296_1 := b296_1
theorem u296_1 : vcK P t296_1 k e w = vcK P b296_1 k e w := rfl
abbrev b296_2 : X := (.seq (.reg [5] (.c (.q 8 [] (.fa 2 (.t 2))) (.c (.q 9 [] (.ld (.t 8))) (.c (.q 10 [] (.mv (.t 1))) (.c (.e (some 11) [] (.call false 259 [(.t 9), (.t 10)])) (.c (.q 7 [] (.mv (.t 11))) (.c (.q 12 [] (.ext 0 (.t 7))) (.c (.q 13 [] (.ext 1 (.t 7))) (.c (.q 5 [] (.mv (.t 12))) (.c (.q 6 [] (.mv (.t 13))) .nil)))))))))) t296_1)
def t296_2 := b296_2
theorem u296_2 : vcK P t296_2 k e w = vcK P b296_2 k e w := rfl
abbrev b296_0 : X := (.seq (.reg [1, 2] (.c (.e (some 2) [] (.box 26 (.t 0))) (.c (.q 4 [] (.mv (.c (.slice none 0 0)))) .nil))) t296_2)
def x_sl11Lead := b296_0
theorem u296_0 : vcK P x_sl11Lead k e w = vcK P b296_0 k e w := rfl
def r_sl11Lead : List XO := [(.mv (.t 4))]
theorem c_sl11Lead : convF Try.prog [147, 148, 152, 160, 162, 163, 170, 178, 206, 208, 210, 224, 233, 235, 236, 251, 264, 265, 268, 270, 287, 322] Try.f296 [([1, 2], []), ([5], []), ([4], [])] = some (x_sl11Lead, r_sl11Lead) := by kernel_rfl
def us_sl11Lead :=  (aI @u296_0 (aI @u296_1 @u296_2))
end

theorem rowsU_take (l : List UInt8) (cs : List (List UInt8)) (k : Nat) : (rowsU l cs (k + 1)).take k = rowsU l cs k := by
  unfold rowsU
  rw [← List.map_take, List.take_range, Nat.min_eq_left (by omega)]
/-- The rows of the leads from some heads. -/
def leadsL (cs : List (List UInt8)) (hs : List (List UInt8)) : List (List UInt8) := hs.flatMap fun h => rowsU h cs cs.length
theorem leadsL_len (cs : List (List UInt8)) (hs : List (List UInt8)) : (leadsL cs hs).length = hs.length * cs.length := by
  unfold leadsL
  induction hs with
  | nil => simp
  | cons h hs ih => rw [List.flatMap_cons, List.length_append, ih, rowsU_len, List.length_cons, Nat.add_mul]; omega
theorem leadsL_succ (cs : List (List UInt8)) (hs : List (List UInt8)) (k : Nat) (h : k < hs.length) : leadsL cs (hs.take (k + 1)) = leadsL cs (hs.take k) ++ rowsU (hs.getD k []) cs cs.length := by
  unfold leadsL
  rw [List.take_add_one, List.getElem?_eq_getElem h, List.getD_eq_getElem?_getD, List.getElem?_eq_getElem h, List.flatMap_append]
  simp
theorem ileadRows_ok (nm : List UInt8) (st : Nat) (v : Value) (cs : List (List UInt8)) (l : List UInt8) (hm : IsMethod nm st cs) (hr : IsRow l) (w : World) (h : Sq fS 1 w v cs) : Fn 145 [mV nm st v, S l] w (fun r w' => Own fS 1 9 w.heap.size w' r (rowsU l cs cs.length)) := by
  (refine callsV_of mix Try.func145 c_ileadRows ?_; simp only [↓vsd, vsn, gW, qd, qv, ev, pick, argE, zipE, ne_eq, eq_self, forall_const, implies_true, if_true, if_false, reduceIte, reduceCtorEq, Nat.reduceEqDiff, Nat.reduceAdd, Nat.reduceLT, ↓us_ileadRows, r_ileadRows])
  refine m_al ?_
  rintro b1 w1 hb1 hblk1 hx1 hs1
  have h1 : Blk w1 b1 (fM nm st v) 26 := hblk1
  have hcl := hm.2.2.1
  have hq := h.ext hx1
  simp only [↓vsd, vsn, gW, qd, qv, ev, pick, argE, zipE, ne_eq, eq_self, forall_const, implies_true, if_true, if_false, reduceIte, reduceCtorEq, Nat.reduceEqDiff, Nat.reduceAdd, Nat.reduceLT, ↓us_ileadRows, r_ileadRows, h1.facts, fMg, hq.facts]
  try refine m_call (irowsUnder_ok l v cs st hr hm.2.2.2 hm.2.2.1.2 _ hq) ?_
  try refine m_call (irowsUnder_ok l v cs st hr hm.2.2.2 hm.2.2.1.2 _ (h.ext (dr hx1))) ?_
  rintro x w2 hx2 ho2
  have hx2 : Ext w1 w2 := by first | exact hx2 | exact ud hx2
  have h2 := h1.ext hx2
  have hq2 := hq.ext hx2
  obtain ⟨hd, hoh, _⟩ := ho2.head .i64 cs.length (by rw [rowsU_len]; omega)
  rw [rowsU_take] at hoh
  simp only [↓vsd, vsn, gW, qd, qv, ev, pick, argE, zipE, ne_eq, eq_self, forall_const, implies_true, if_true, if_false, reduceIte, reduceCtorEq, Nat.reduceEqDiff, Nat.reduceAdd, Nat.reduceLT, ↓us_ileadRows, r_ileadRows, h1.facts, h2.facts, fMg, hq.facts, hq2.facts, hd]
  exact ⟨hx1.trans hx2, hoh.mono hx1.size⟩
theorem sl11Lead_ok (nm : List UInt8) (st : Nat) (v : Value) (cs : List (List UInt8)) (l : List UInt8) (hm : IsMethod nm st cs) (hr : IsRow l) (w : World) (h : Sq fS 1 w v cs) : Fn 296 [mV nm st v, S l] w (fun r w' => Own fS 1 9 w.heap.size w' r (rowsU l cs cs.length)) := by
  (refine callsV_of mix Try.func296 c_sl11Lead ?_; simp only [↓vsd, vsn, gW, qd, qv, ev, pick, argE, zipE, ne_eq, eq_self, forall_const, implies_true, if_true, if_false, reduceIte, reduceCtorEq, Nat.reduceEqDiff, Nat.reduceAdd, Nat.reduceLT, ↓us_sl11Lead, r_sl11Lead])
  refine m_al ?_
  rintro b1 w1 hb1 hblk1 hx1 hs1
  have h1 : Blk w1 b1 (fM nm st v) 26 := hblk1
  simp only [↓vsd, vsn, gW, qd, qv, ev, pick, argE, zipE, ne_eq, eq_self, forall_const, implies_true, if_true, if_false, reduceIte, reduceCtorEq, Nat.reduceEqDiff, Nat.reduceAdd, Nat.reduceLT, ↓us_sl11Lead, r_sl11Lead, h1.facts, fMg]
  refine m_call (sl4Lead_ok l v cs st hr hm.2.2.2 hm.2.2.1.2 _ (h.ext hx1)) ?_
  rintro _ w2 hx2 ⟨x, rfl, ho2⟩
  simp only [↓vsd, vsn, gW, qd, qv, ev, pick, argE, zipE, ne_eq, eq_self, forall_const, implies_true, if_true, if_false, reduceIte, reduceCtorEq, Nat.reduceEqDiff, Nat.reduceAdd, Nat.reduceLT, ↓us_sl11Lead, r_sl11Lead]
  exact ⟨hx1.trans hx2, ho2.mono hx1.size⟩
/-- Are the rows of a lead from l asked? -/
def LeadOk (nm : List UInt8) (st : Int) (cs : List (List UInt8)) (l : List UInt8) : Prop := IsMethod nm st cs ∧ IsRow l ∧ (l.length : Int) = st
instance (nm : List UInt8) (st : Int) (cs : List (List UInt8)) (l : List UInt8) : Decidable (LeadOk nm st cs l) := by unfold LeadOk; infer_instance
def leadV (nm : List UInt8) (st : Int) (cs : List (List UInt8)) (l : List UInt8) : List (List UInt8) := if LeadOk nm st cs l then rowsU l cs cs.length else []
end Go.Proofs.Ytnincmnkdjlndaa
