/-
  The rows of leads, of both sides.
  Conditions: none.
-/
import Derived.Test.YtpnopboffalfnaaA11
import Derived.Test.YtpnopboffalfnaaVw
set_option linter.unusedSimpArgs false
set_option linter.unusedVariables false
set_option linter.defProp false
namespace Go.Proofs.Ytpnopboffalfnaa
open Go Go.RowKit
section
variable (P : Program) (k : KT) (e : Env) (w : World)
abbrev b157_1 : X := (.seq (.drw [4] (.c (.q 5 [] (.mv (.t 1))) (.c (.q 6 [] (.fa 2 (.t 2))) (.c (.q 7 [] (.ld (.t 6))) (.c (.q 9 [] (.fa 2 (.t 2))) (.c (.q 10 [] (.ld (.t 9))) (.c (.q 11 [] (.lens (.t 10))) (.c (.e (some 8) [] (.call false 278 [(.t 5), (.t 7)])) (.c (.q 12 [] (.ssl 1 (.t 8) none (some (.t 11)))) (.c (.q 4 [] (.mv (.t 12))) .nil)))))))))) .ret)
def t157_1 := b157_1
theorem u157_1 : vcK P t157_1 k e w = vcK P b157_1 k e w := rfl
abbrev b157_0 : X := (.seq (.reg [1, 2] (.c (.e (some 2) [] (.box 41 (.t 0))) (.c (.q 4 [] (.mv (.c (.slice none 0 0)))) .nil))) t157_1)
def x_ileadRows := b157_0
theorem u157_0 : vcK P x_ileadRows k e w = vcK P b157_0 k e w := rfl
def r_ileadRows : List XO := [(.mv (.t 4))]
theorem c_ileadRows : convF Try.prog [169, 170, 207, 208, 210, 227, 232, 233, 255, 259, 268, 269, 270, 280, 281, 296, 299, 306, 307, 309] Try.f157 [([1, 2], []), ([4], [])] = some (x_ileadRows, r_ileadRows) := by kernel_rfl
def us_ileadRows := aI @u157_0 @u157_1
abbrev b294_1 : X := (.reg [2, 5, 9, 10, 11] (.c (.q 15 [] (.mv (.t 5))) (.c (.q 16 [] (.lda 3 (.t 2))) (.c (.q 17 [] (.mv (.t 7))) (.c (.e (some 18) [] (.call false 157 [(.t 16), (.t 17)])) (.c (.e (some 19) [] (.app 27 9 1 16 [(S [])] 27 (.t 15) (.t 18))) (.c (.q 5 [] (.mv (.t 19))) .nil)))))))
def t294_1 := b294_1
theorem u294_1 : vcK P t294_1 k e w = vcK P b294_1 k e w := rfl
abbrev b294_2 : X := (.reg [2, 5, 9, 10, 11] (.c (.q 20 [] (.bin .add (.t 11) (.c (.int .i64 1)))) (.c (.q 11 [] (.mv (.t 20))) .nil)))
def t294_2 := b294_2
theorem u294_2 : vcK P t294_2 k e w = vcK P b294_2 k e w := rfl
abbrev b294_3 : X := (.seq (.blk 1 (.seq (.reg [2, 5, 7, 9, 10, 11] (.c (.q 13 [] (.ia 1 (.t 9) (.t 11))) (.c (.q 14 [] (.ld (.t 13))) (.c (.q 7 [] (.mv (.t 14))) .nil)))) t294_1)) t294_2)
def t294_3 := b294_3
theorem u294_3 : vcK P t294_3 k e w = vcK P b294_3 k e w := rfl
abbrev b294_4 : X := (.seq (.cond (.t 12) .skip (.exit 0)) t294_3)
def t294_4 := b294_4
theorem u294_4 : vcK P t294_4 k e w = vcK P b294_4 k e w := rfl
abbrev b294_5 : X := (.seq (.reg [2, 5, 9, 10, 11, 12] (.c (.q 12 [] (.bin .lss (.t 11) (.t 10))) .nil)) t294_4)
def t294_5 := b294_5
theorem u294_5 : vcK P t294_5 k e w = vcK P b294_5 k e w := rfl
abbrev b294_6 : X := (.blk 0 (.loop [5, 11] [2, 9, 10] t294_5))
def t294_6 := b294_6
theorem u294_6 : vcK P t294_6 k e w = vcK P b294_6 k e w := rfl
abbrev b294_7 : X := (.seq (.reg [4] (.c (.q 21 [] (.mv (.t 5))) (.c (.q 4 [] (.mv (.t 21))) .nil))) .ret)
def t294_7 := b294_7
theorem u294_7 : vcK P t294_7 k e w = vcK P b294_7 k e w := rfl
abbrev b294_8 : X := (.seq (.seq (.reg [2, 5, 9, 10, 11] (.c (.q 9 [] (.mv (.t 1))) (.c (.q 10 [] (.lens (.t 9))) (.c (.q 11 [] (.mv (.c (.int .i64 0)))) .nil)))) t294_6) t294_7)
def t294_8 := b294_8
theorem u294_8 : vcK P t294_8 k e w = vcK P b294_8 k e w := rfl
abbrev b294_9 : X := (.seq (.reg [1, 2, 5] (.c (.e (some 8) [] (.bsl 9 1 [])) (.c (.q 5 [] (.mv (.t 8))) .nil))) t294_8)
def t294_9 := b294_9
theorem u294_9 : vcK P t294_9 k e w = vcK P b294_9 k e w := rfl
abbrev b294_0 : X := (.seq (.reg [1, 2] (.c (.e (some 2) [] (.box 41 (.t 0))) (.c (.q 4 [] (.mv (.c (.slice none 0 0)))) .nil))) t294_9)
def x_ileadsFrom := b294_0
theorem u294_0 : vcK P x_ileadsFrom k e w = vcK P b294_0 k e w := rfl
def r_ileadsFrom : List XO := [(.mv (.t 4))]
theorem c_ileadsFrom : convF Try.prog [169, 170, 207, 208, 210, 227, 232, 233, 255, 259, 268, 269, 270, 280, 281, 296, 299, 306, 307, 309] Try.f294 [([1, 2], []), ([1, 2, 5], []), ([2, 5, 9, 10, 11], []), ([5, 11], [2, 9, 10]), ([2, 5, 9, 10, 11, 12], []), ([2, 5, 7, 9, 10, 11], []), ([2, 5, 9, 10, 11], []), ([2, 5, 9, 10, 11], []), ([4], [])] = some (x_ileadsFrom, r_ileadsFrom) := by kernel_rfl
def us_ileadsFrom := aI @u294_0 (aI @u294_1 (aI @u294_2 (aI @u294_3 (aI @u294_4 (aI @u294_5 (aI @u294_6 (aI @u294_7 (aI @u294_8 @u294_9))))))))
abbrev b195_1 : X := (.seq (.reg [4] (.c (.q 14 [] (.mv (.t 5))) (.c (.q 4 [] (.mv (.t 14))) .nil))) .ret)
def t195_1 := b195_1
theorem u195_1 : vcK P t195_1 k e w = vcK P b195_1 k e w := rfl
abbrev b195_2 : X := (.seq (.reg [5] (.c (.q 8 [] (.fa 2 (.t 2))) (.c (.q 9 [] (.ld (.t 8))) (.c (.q 10 [] (.mv (.t 1))) (.c (.e (some 11) [] (.call false 234 [(.t 9), (.t 10)])) (.c (.q 7 [] (.mv (.t 11))) (.c (.q 12 [] (.ext 0 (.t 7))) (.c (.q 13 [] (.ext 1 (.t 7))) (.c (.q 5 [] (.mv (.t 12))) (.c (.q 6 [] (.mv (.t 13))) .nil)))))))))) t195_1)
def t195_2 := b195_2
theorem u195_2 : vcK P t195_2 k e w = vcK P b195_2 k e w := rfl
abbrev b195_0 : X := (.seq (.reg [1, 2] (.c (.e (some 2) [] (.box 41 (.t 0))) (.c (.q 4 [] (.mv (.c (.slice none 0 0)))) .nil))) t195_2)
def x_sl11Lead := b195_0
theorem u195_0 : vcK P x_sl11Lead k e w = vcK P b195_0 k e w := rfl
def r_sl11Lead : List XO := [(.mv (.t 4))]
theorem c_sl11Lead : convF Try.prog [169, 170, 207, 208, 210, 227, 232, 233, 255, 259, 268, 269, 270, 280, 281, 296, 299, 306, 307, 309] Try.f195 [([1, 2], []), ([5], []), ([4], [])] = some (x_sl11Lead, r_sl11Lead) := by kernel_rfl
def us_sl11Lead := aI @u195_0 (aI @u195_1 @u195_2)
abbrev b112_1 : X := (.cond (.t 22) (.seq (.reg [4, 5] (.c (.q 4 [] (.mv (.c (.slice none 0 0)))) (.c (.q 5 [] (.mv (.c (.bool false)))) .nil))) .ret) .skip)
def t112_1 := b112_1
theorem u112_1 : vcK P t112_1 k e w = vcK P b112_1 k e w := rfl
abbrev b112_2 : X := (.seq (.reg [4, 5] (.c (.q 30 [] (.mv (.t 6))) (.c (.q 4 [] (.mv (.t 30))) (.c (.q 5 [] (.mv (.c (.bool true)))) .nil)))) .ret)
def t112_2 := b112_2
theorem u112_2 : vcK P t112_2 k e w = vcK P b112_2 k e w := rfl
abbrev b112_3 : X := (.seq (.reg [6] (.c (.q 24 [] (.fa 2 (.t 2))) (.c (.q 25 [] (.ld (.t 24))) (.c (.q 26 [] (.mv (.t 1))) (.c (.e (some 27) [] (.call false 234 [(.t 25), (.t 26)])) (.c (.q 23 [] (.mv (.t 27))) (.c (.q 28 [] (.ext 0 (.t 23))) (.c (.q 29 [] (.ext 1 (.t 23))) (.c (.q 6 [] (.mv (.t 28))) (.c (.q 7 [] (.mv (.t 29))) .nil)))))))))) t112_2)
def t112_3 := b112_3
theorem u112_3 : vcK P t112_3 k e w = vcK P b112_3 k e w := rfl
abbrev b112_4 : X := (.seq (.seq (.reg [1, 2, 22] (.c (.q 8 [] (.lda 3 (.t 2))) (.c (.e (some 9) [] (.call false 166 [(.t 8)])) (.c (.q 10 [] (.not (.t 9))) (.c (.q 11 [] (.mv (.t 10))) (.c (.q 12 [(11, false)] (.mv (.t 1))) (.c (.e (some 13) [(11, false)] (.call false 223 [(.t 12)])) (.c (.q 14 [(11, false)] (.not (.t 13))) (.c (.q 15 [] (.pick (.t 11) (.c (.bool true)) (.t 14))) (.c (.q 16 [] (.mv (.t 15))) (.c (.q 17 [(16, false)] (.mv (.t 1))) (.c (.q 18 [(16, false)] (.len (.t 17))) (.c (.q 19 [(16, false)] (.fa 1 (.t 2))) (.c (.q 20 [(16, false)] (.ld (.t 19))) (.c (.q 21 [(16, false)] (.bin .neq (.t 18) (.t 20))) (.c (.q 22 [] (.pick (.t 16) (.c (.bool true)) (.t 21))) .nil)))))))))))))))) t112_1) t112_3)
def t112_4 := b112_4
theorem u112_4 : vcK P t112_4 k e w = vcK P b112_4 k e w := rfl
abbrev b112_0 : X := (.seq (.reg [1, 2] (.c (.e (some 2) [] (.box 41 (.t 0))) (.c (.q 4 [] (.mv (.c (.slice none 0 0)))) (.c (.q 5 [] (.mv (.c (.bool false)))) .nil)))) t112_4)
def x_sLeadRows := b112_0
theorem u112_0 : vcK P x_sLeadRows k e w = vcK P b112_0 k e w := rfl
def r_sLeadRows : List XO := [(.mv (.t 4)), (.mv (.t 5))]
theorem c_sLeadRows : convF Try.prog [169, 170, 207, 208, 210, 227, 232, 233, 255, 259, 268, 269, 270, 280, 281, 296, 299, 306, 307, 309] Try.f112 [([1, 2], []), ([1, 2, 22], []), ([4, 5], []), ([6], []), ([4, 5], [])] = some (x_sLeadRows, r_sLeadRows) := by kernel_rfl
def us_sLeadRows := aI @u112_0 (aI @u112_1 (aI @u112_2 (aI @u112_3 @u112_4)))
end

theorem rowsU_take (l : List UInt8) (cs : List (List UInt8)) (k : Nat) : (rowsU l cs (k + 1)).take k = rowsU l cs k := by
  unfold rowsU
  rw [← List.map_take, List.take_range, Nat.min_eq_left (by omega)]
/-- The rows of the leads from some heads. -/
def leadsL (cs : List (List UInt8)) (hs : List (List UInt8)) : List (List UInt8) := hs.flatMap fun h => rowsU h cs cs.length
theorem leadsL_len (cs : List (List UInt8)) (hs : List (List UInt8)) : (leadsL cs hs).length = hs.length * cs.length := by
  unfold leadsL
  induction hs with
  | nil => simp
  | cons h hs ih => rw [List.flatMap_cons, List.length_append, ih, rowsU_len, List.length_cons, Nat.add_mul]; omega
theorem leadsL_succ (cs : List (List UInt8)) (hs : List (List UInt8)) (k : Nat) (h : k < hs.length) : leadsL cs (hs.take (k + 1)) = leadsL cs (hs.take k) ++ rowsU (hs.getD k []) cs cs.length := by
  unfold leadsL
  rw [List.take_add_one, List.getElem?_eq_getElem h, List.getD_eq_getElem?_getD, List.getElem?_eq_getElem h, List.flatMap_append]
  simp
theorem ileadRows_ok (nm : List UInt8) (st : Nat) (v : Value) (cs : List (List UInt8)) (l : List UInt8) (hm : IsMethod nm st cs) (hr : IsRow l) (w : World) (h : Sq fS 1 w v cs) : Fn 157 [mV nm st v, S l] w (fun r w' => Own fS 1 9 w.heap.size w' r (rowsU l cs cs.length)) := by
  (refine callsV_of mix Try.func157 c_ileadRows ?_; simp only [↓vsd, vsn, gW, qd, qv, ev, pick, argE, zipE, ne_eq, eq_self, forall_const, implies_true, if_true, if_false, reduceIte, reduceCtorEq, Nat.reduceEqDiff, Nat.reduceAdd, Nat.reduceLT, ↓us_ileadRows, r_ileadRows])
  refine m_al ?_
  rintro b1 w1 hb1 hblk1 hx1 hs1
  have h1 : Blk w1 b1 (fM nm st v) 41 := hblk1
  have hcl := hm.2.2.1
  have hq := h.ext hx1
  simp only [↓vsd, vsn, gW, qd, qv, ev, pick, argE, zipE, ne_eq, eq_self, forall_const, implies_true, if_true, if_false, reduceIte, reduceCtorEq, Nat.reduceEqDiff, Nat.reduceAdd, Nat.reduceLT, ↓us_ileadRows, r_ileadRows, h1.facts, fMg, hq.facts]
  try refine m_call (irowsUnder_ok l v cs st hr hm.2.2.2 hm.2.2.1.2 _ hq) ?_
  try refine m_call (irowsUnder_ok l v cs st hr hm.2.2.2 hm.2.2.1.2 _ (h.ext (dr hx1))) ?_
  rintro x w2 hx2 ho2
  have hx2 : Ext w1 w2 := by first | exact hx2 | exact ud hx2
  have h2 := h1.ext hx2
  have hq2 := hq.ext hx2
  obtain ⟨hd, hoh, _⟩ := ho2.head .i64 cs.length (by rw [rowsU_len]; omega)
  rw [rowsU_take] at hoh
  simp only [↓vsd, vsn, gW, qd, qv, ev, pick, argE, zipE, ne_eq, eq_self, forall_const, implies_true, if_true, if_false, reduceIte, reduceCtorEq, Nat.reduceEqDiff, Nat.reduceAdd, Nat.reduceLT, ↓us_ileadRows, r_ileadRows, h1.facts, h2.facts, fMg, hq.facts, hq2.facts, hd]
  exact ⟨hx1.trans hx2, hoh.mono hx1.size⟩
theorem sl11Lead_ok (nm : List UInt8) (st : Nat) (v : Value) (cs : List (List UInt8)) (l : List UInt8) (hm : IsMethod nm st cs) (hr : IsRow l) (w : World) (h : Sq fS 1 w v cs) : Fn 195 [mV nm st v, S l] w (fun r w' => Own fS 1 9 w.heap.size w' r (rowsU l cs cs.length)) := by
  (refine callsV_of mix Try.func195 c_sl11Lead ?_; simp only [↓vsd, vsn, gW, qd, qv, ev, pick, argE, zipE, ne_eq, eq_self, forall_const, implies_true, if_true, if_false, reduceIte, reduceCtorEq, Nat.reduceEqDiff, Nat.reduceAdd, Nat.reduceLT, ↓us_sl11Lead, r_sl11Lead])
  refine m_al ?_
  rintro b1 w1 hb1 hblk1 hx1 hs1
  have h1 : Blk w1 b1 (fM nm st v) 41 := hblk1
  simp only [↓vsd, vsn, gW, qd, qv, ev, pick, argE, zipE, ne_eq, eq_self, forall_const, implies_true, if_true, if_false, reduceIte, reduceCtorEq, Nat.reduceEqDiff, Nat.reduceAdd, Nat.reduceLT, ↓us_sl11Lead, r_sl11Lead, h1.facts, fMg]
  refine m_call (sl4Lead_ok l v cs st hr hm.2.2.2 hm.2.2.1.2 _ (h.ext hx1)) ?_
  rintro _ w2 hx2 ⟨x, rfl, ho2⟩
  simp only [↓vsd, vsn, gW, qd, qv, ev, pick, argE, zipE, ne_eq, eq_self, forall_const, implies_true, if_true, if_false, reduceIte, reduceCtorEq, Nat.reduceEqDiff, Nat.reduceAdd, Nat.reduceLT, ↓us_sl11Lead, r_sl11Lead]
  exact ⟨hx1.trans hx2, ho2.mono hx1.size⟩
theorem ileadsFrom_ok (nm : List UInt8) (st : Nat) (v u : Value) (cs hs : List (List UInt8)) (hm : IsMethod nm st cs) (hr : ∀ r ∈ hs, IsRow r) (hl : hs.length ≤ 1000) (w : World) (h : Sq fS 1 w v cs) (h' : Sq fS 1 w u hs) : Fn 294 [mV nm st v, u] w (fun r w' => Own fS 1 9 w.heap.size w' r (leadsL cs hs)) := by
  (refine callsV_of mix Try.func294 c_ileadsFrom ?_; simp only [↓vsd, vsn, gW, qd, qv, ev, pick, argE, zipE, ne_eq, eq_self, forall_const, implies_true, if_true, if_false, reduceIte, reduceCtorEq, Nat.reduceEqDiff, Nat.reduceAdd, Nat.reduceLT, ↓us_ileadsFrom, r_ileadsFrom])
  refine m_al ?_
  rintro b1 w1 hb1 hblk1 hx1 hs1
  have h1 : Blk w1 b1 (fM nm st v) 41 := hblk1
  simp only [↓vsd, vsn, gW, qd, qv, ev, pick, argE, zipE, ne_eq, eq_self, forall_const, implies_true, if_true, if_false, reduceIte, reduceCtorEq, Nat.reduceEqDiff, Nat.reduceAdd, Nat.reduceLT, ↓us_ileadsFrom, r_ileadsFrom]
  refine m_bsl (by simp) ?_
  rintro b2 w2 hb2 hblk2 hx2 hs2
  have h12 := h1.ext hx2
  have hx12 := hx1.trans hx2
  have hq' := h'.ext hx12
  simp only [↓vsd, vsn, gW, qd, qv, ev, pick, argE, zipE, ne_eq, eq_self, forall_const, implies_true, if_true, if_false, reduceIte, reduceCtorEq, Nat.reduceEqDiff, Nat.reduceAdd, Nat.reduceLT, ↓us_ileadsFrom, r_ileadsFrom, hq'.facts]
  have hcl := hm.2.2.1
  refine m_upto hs.length (fun i vs w' => ∃ x, vs = [x, .int .i64 i] ∧ Own fS 1 9 w1.heap.size w' x (leadsL cs (hs.take i)) ∧ Ext w1 w') ⟨_, rfl, (Own.empty fS_len hblk2 (by omega)).to rfl, hx2⟩ ?_
  rintro i vs w3 hi ⟨x, rfl, ho3, hx3⟩
  have h13 := h1.ext hx3
  have hx13 := hx1.trans hx3
  have hq3 := h'.ext hx13
  by_cases hlt : i < hs.length
  · have hltI : (i : Int) < hs.length := by omega
    have hltJ : ¬ (hs.length : Int) ≤ i := by omega
    simp only [↓vsd, vsn, gW, qd, qv, ev, pick, argE, zipE, ne_eq, eq_self, forall_const, implies_true, if_true, if_false, reduceIte, reduceCtorEq, Nat.reduceEqDiff, Nat.reduceAdd, Nat.reduceLT, ↓us_ileadsFrom, r_ileadsFrom, hltI, hltJ, hq3.facts, hq3.at1 [] hlt, h13.facts, fMg]
    refine ⟨by omega, m_call (ileadRows_ok nm st v cs _ hm (hr _ (getD_mem [] hlt)) _ (h.ext (by first | exact hx13 | exact dr hx13))) ?_⟩
    rintro y w4 hx4 ho4
    have hx4 : Ext w3 w4 := by first | exact hx4 | exact ud hx4
    simp only [↓vsd, vsn, gW, qd, qv, ev, pick, argE, zipE, ne_eq, eq_self, forall_const, implies_true, if_true, if_false, reduceIte, reduceCtorEq, Nat.reduceEqDiff, Nat.reduceAdd, Nat.reduceLT, ↓us_ileadsFrom, r_ileadsFrom]
    have hll := leadsL_len cs (hs.take i)
    rw [List.length_take, Nat.min_eq_left (by omega)] at hll
    have hb1 : i * cs.length ≤ 40000 := Nat.le_trans (Nat.mul_le_mul (show i ≤ 1000 by omega) hcl.2) (by decide)
    refine m_app (ho3.ext hx4) ho4.sq fS_one (by decide) (by rw [hll, rowsU_len]; omega) (by decide) (hx3.trans hx4).size ?_
    rintro z w5 ho5 hg5
    have hx5 := (ho3.ext hx4).grown (hx3.trans hx4) (Nat.le_refl _) hg5
    simp only [↓vsd, vsn, gW, qd, qv, ev, pick, argE, zipE, ne_eq, eq_self, forall_const, implies_true, if_true, if_false, reduceIte, reduceCtorEq, Nat.reduceEqDiff, Nat.reduceAdd, Nat.reduceLT, ↓us_ileadsFrom, r_ileadsFrom]
    exact ⟨inR_i64 (by omega), UpTo.next hlt ⟨z, rfl, ho5.to (leadsL_succ cs hs i hlt).symm, hx5⟩⟩
  · obtain rfl : i = hs.length := by omega
    have hltI : ¬ (hs.length : Int) < hs.length := by omega
    simp only [↓vsd, vsn, gW, qd, qv, ev, pick, argE, zipE, ne_eq, eq_self, forall_const, implies_true, if_true, if_false, reduceIte, reduceCtorEq, Nat.reduceEqDiff, Nat.reduceAdd, Nat.reduceLT, ↓us_ileadsFrom, r_ileadsFrom, hltI]
    rw [List.take_length] at ho3
    exact ⟨hx13, ho3.mono hx1.size⟩
/-- Are the rows of a lead from l asked? -/
def LeadOk (nm : List UInt8) (st : Int) (cs : List (List UInt8)) (l : List UInt8) : Prop := IsMethod nm st cs ∧ IsRow l ∧ (l.length : Int) = st
instance (nm : List UInt8) (st : Int) (cs : List (List UInt8)) (l : List UInt8) : Decidable (LeadOk nm st cs l) := by unfold LeadOk; infer_instance
def leadV (nm : List UInt8) (st : Int) (cs : List (List UInt8)) (l : List UInt8) : List (List UInt8) := if LeadOk nm st cs l then rowsU l cs cs.length else []
theorem sLeadRows_ok (nm : List UInt8) (st : Int) (v : Value) (cs : List (List UInt8)) (l : List UInt8) (hnm : nm.length ≤ 1048576) (hs : ∀ c ∈ cs, c.length ≤ 1048576) (hl : cs.length ≤ 1000000000) (w : World) (h : Sq fS 1 w v cs) : Fn 112 [mV nm st v, S l] w (fun r w' => ∃ x, r = .tuple ⟨[x, .bool (decide (LeadOk nm st cs l))]⟩ ∧ Own fS 1 9 w.heap.size w' x (leadV nm st cs l)) := by
  (refine callsV_of mix Try.func112 c_sLeadRows ?_; simp only [↓vsd, vsn, gW, qd, qv, ev, pick, argE, zipE, ne_eq, eq_self, forall_const, implies_true, if_true, if_false, reduceIte, reduceCtorEq, Nat.reduceEqDiff, Nat.reduceAdd, Nat.reduceLT, ↓us_sLeadRows, r_sLeadRows])
  refine m_al ?_
  rintro b1 w1 hb1 hblk1 hx1 hs1
  have h1 : Blk w1 b1 (fM nm st v) 41 := hblk1
  have hno : ¬ LeadOk nm st cs l → ∀ w', ∃ x, Value.tuple ⟨[.slice none 0 0, .bool false]⟩ = .tuple ⟨[x, .bool (decide (LeadOk nm st cs l))]⟩ ∧ Own fS 1 9 w.heap.size w' x (leadV nm st cs l) := fun hn w' =>
    ⟨_, by rw [decide_eq_false hn], by rw [leadV, if_neg hn]; exact Own.nil fS_len⟩
  simp only [↓vsd, vsn, gW, qd, qv, ev, pick, argE, zipE, ne_eq, eq_self, forall_const, implies_true, if_true, if_false, reduceIte, reduceCtorEq, Nat.reduceEqDiff, Nat.reduceAdd, Nat.reduceLT, ↓us_sLeadRows, r_sLeadRows, h1.facts, fMg]
  refine m_call (sl4Good_ok nm st v cs hnm hs hl _ (h.ext hx1)) ?_
  rintro _ w2 hx2 rfl
  have hx12 := hx1.trans hx2
  have h2 := h1.ext hx2
  by_cases hm : IsMethod nm st cs
  · simp only [↓vsd, vsn, gW, qd, qv, ev, pick, argE, zipE, ne_eq, eq_self, forall_const, implies_true, if_true, if_false, reduceIte, reduceCtorEq, Nat.reduceEqDiff, Nat.reduceAdd, Nat.reduceLT, ↓us_sLeadRows, r_sLeadRows, hm]
    refine m_call (sl1Row_ok l _) ?_
    rintro _ w3 hx3 rfl
    have hx13 := hx12.trans (by first | exact hx3 | exact ud hx3)
    have h3 := h2.ext (by first | exact hx3 | exact ud hx3)
    by_cases hr : IsRow l
    · simp only [↓vsd, vsn, gW, qd, qv, ev, pick, argE, zipE, ne_eq, eq_self, forall_const, implies_true, if_true, if_false, reduceIte, reduceCtorEq, Nat.reduceEqDiff, Nat.reduceAdd, Nat.reduceLT, ↓us_sLeadRows, r_sLeadRows, hr, h3.facts, h2.facts, fMg]
      by_cases he : (l.length : Int) = st
      · have hyes : LeadOk nm st cs l := ⟨hm, hr, he⟩
        simp only [↓vsd, vsn, gW, qd, qv, ev, pick, argE, zipE, ne_eq, eq_self, forall_const, implies_true, if_true, if_false, reduceIte, reduceCtorEq, Nat.reduceEqDiff, Nat.reduceAdd, Nat.reduceLT, ↓us_sLeadRows, r_sLeadRows, he]
        try simp only [forall_const, true_and, not_true_eq_false, false_implies, and_true]
        refine m_call (sl4Lead_ok l v cs st hr hm.2.2.2 hm.2.2.1.2 _ (h.ext hx13)) ?_
        rintro _ w4 hx4 ⟨x, rfl, ho4⟩
        simp only [↓vsd, vsn, gW, qd, qv, ev, pick, argE, zipE, ne_eq, eq_self, forall_const, implies_true, if_true, if_false, reduceIte, reduceCtorEq, Nat.reduceEqDiff, Nat.reduceAdd, Nat.reduceLT, ↓us_sLeadRows, r_sLeadRows]
        exact ⟨hx13.trans hx4, x, by rw [decide_eq_true hyes], by rw [leadV, if_pos hyes]; exact ho4.mono hx13.size⟩
      · simp only [↓vsd, vsn, gW, qd, qv, ev, pick, argE, zipE, ne_eq, eq_self, forall_const, implies_true, if_true, if_false, reduceIte, reduceCtorEq, Nat.reduceEqDiff, Nat.reduceAdd, Nat.reduceLT, ↓us_sLeadRows, r_sLeadRows, he]
        try simp only [forall_const, true_and, not_true_eq_false, false_implies, and_true]
        exact ⟨hx13, hno (fun hh => he hh.2.2) _⟩
    · simp only [↓vsd, vsn, gW, qd, qv, ev, pick, argE, zipE, ne_eq, eq_self, forall_const, implies_true, if_true, if_false, reduceIte, reduceCtorEq, Nat.reduceEqDiff, Nat.reduceAdd, Nat.reduceLT, ↓us_sLeadRows, r_sLeadRows, hr]
      exact ⟨hx13, hno (fun hh => hr hh.2.1) _⟩
  · simp only [↓vsd, vsn, gW, qd, qv, ev, pick, argE, zipE, ne_eq, eq_self, forall_const, implies_true, if_true, if_false, reduceIte, reduceCtorEq, Nat.reduceEqDiff, Nat.reduceAdd, Nat.reduceLT, ↓us_sLeadRows, r_sLeadRows, hm]
    exact ⟨hx12, hno (fun hh => hm hh.1) _⟩
end Go.Proofs.Ytpnopboffalfnaa
