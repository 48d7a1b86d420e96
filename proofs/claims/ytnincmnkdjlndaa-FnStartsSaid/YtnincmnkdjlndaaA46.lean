/-
  The leads and rows of plain courses, of both sides.
  Conditions: none.
-/
import Derived.Test.YtnincmnkdjlndaaA34
import Derived.Test.YtnincmnkdjlndaaD7
import Derived.Test.YtnincmnkdjlndaaPt
set_option linter.unusedSimpArgs false
set_option linter.unusedVariables false
set_option linter.defProp false
namespace Go.Proofs.Ytnincmnkdjlndaa
open Go Go.RowKit
section
variable (P : Program) (k : KT) (e : Env) (w : World)
abbrev b63_1 : X := (.cond (.t 6) (.seq (.reg [2, 3] (.c (.q 2 [] (.mv (.c (.int .i64 0)))) (.c (.q 3 [] (.mv (.c (.bool false)))) .nil))) .ret) .skip)
def t63_1 := b63_1
theorem u63_1 : vcK P t63_1 k e w = vcK P b63_1 k e w := rfl
abbrev b63_2 : X := (.seq (.reg [2, 3] (.c (.q 7 [] (.lda 3 (.t 1))) (.c (.e (some 8) [] (.call false 146 [(.t 7)])) (.c (.e (some 9) [] (.call false 188 [(.t 8)])) (.c (.q 10 [] (.lens (.t 9))) (.c (.q 2 [] (.mv (.t 10))) (.c (.q 3 [] (.mv (.c (.bool true)))) .nil))))))) .ret)
def t63_2 := b63_2
theorem u63_2 : vcK P t63_2 k e w = vcK P b63_2 k e w := rfl
abbrev b63_3 : X := (.seq (.seq (.reg [1, 6] (.c (.q 4 [] (.lda 3 (.t 1))) (.c (.e (some 5) [] (.call false 135 [(.t 4)])) (.c (.q 6 [] (.not (.t 5))) .nil)))) t63_1) t63_2)
def t63_3 := b63_3
theorem u63_3 : vcK P t63_3 k e w = vcK P b63_3 k e w := rfl
abbrev b63_0 : X := (.seq (.reg [1] (.c (.e (some 1) [] (.box 26 (.t 0))) (.c (.q 2 [] (.mv (.c (.int .i64 0)))) (.c (.q 3 [] (.mv (.c (.bool false)))) .nil)))) t63_3)
def x_iLeadsIn := b63_0
theorem u63_0 : vcK P x_iLeadsIn k e w = vcK P b63_0 k e w := rfl
def r_iLeadsIn : List XO := [(.mv (.t 2)), (.mv (.t 3))]
theorem c_iLeadsIn : convF Try.prog [147, 148, 152, 160, 162, 163, 170, 178, 206, 208, 210, 224, 233, 235, 236, 251, 264, 265, 268, 270, 287, 322] Try.f63 [([1], []), ([1, 6], []), ([2, 3], []), ([2, 3], [])] = some (x_iLeadsIn, r_iLeadsIn) := by kernel_rfl
def us_iLeadsIn :=  (aI (aI @u63_0 @u63_1) (aI @u63_2 @u63_3))
abbrev b273_1 : X := (.cond (.t 15) .skip (.exit 0))
def t273_1 := b273_1
theorem u273_1 : vcK P t273_1 k e w = vcK P b273_1 k e w := rfl
abbrev b273_2 : X := (.reg [1, 3, 4, 5] (.c (.q 28 [] (.mv (.t 7))) (.c (.q 4 [] (.mv (.t 28))) .nil)))
def t273_2 := b273_2
theorem u273_2 : vcK P t273_2 k e w = vcK P b273_2 k e w := rfl
abbrev b273_3 : X := (.seq (.reg [1, 3, 5, 7] (.c (.q 25 [] (.mv (.t 3))) (.c (.q 26 [] (.mv (.t 6))) (.c (.e (some 27) [] (.app 24 9 1 16 [(S [])] 24 (.t 25) (.t 26))) (.c (.q 3 [] (.mv (.t 27))) .nil))))) t273_2)
def t273_3 := b273_3
theorem u273_3 : vcK P t273_3 k e w = vcK P b273_3 k e w := rfl
abbrev b273_4 : X := (.reg [1, 3, 4, 5] (.c (.q 16 [] (.mv (.t 5))) (.c (.q 17 [] (.bin .sub (.t 16) (.c (.int .i64 1)))) (.c (.q 5 [] (.mv (.t 17))) .nil))))
def t273_4 := b273_4
theorem u273_4 : vcK P t273_4 k e w = vcK P b273_4 k e w := rfl
abbrev b273_5 : X := (.seq (.blk 1 (.seq (.reg [1, 3, 5, 6, 7] (.c (.q 19 [] (.fa 2 (.t 1))) (.c (.q 20 [] (.ld (.t 19))) (.c (.q 21 [] (.mv (.t 4))) (.c (.e (some 22) [] (.call false 259 [(.t 20), (.t 21)])) (.c (.q 18 [] (.mv (.t 22))) (.c (.q 23 [] (.ext 0 (.t 18))) (.c (.q 24 [] (.ext 1 (.t 18))) (.c (.q 6 [] (.mv (.t 23))) (.c (.q 7 [] (.mv (.t 24))) .nil)))))))))) t273_3)) t273_4)
def t273_5 := b273_5
theorem u273_5 : vcK P t273_5 k e w = vcK P b273_5 k e w := rfl
abbrev b273_6 : X := (.seq (.seq (.reg [1, 3, 4, 5, 15] (.c (.q 14 [] (.mv (.t 5))) (.c (.q 15 [] (.bin .gtr (.t 14) (.c (.int .i64 0)))) .nil))) t273_1) t273_5)
def t273_6 := b273_6
theorem u273_6 : vcK P t273_6 k e w = vcK P b273_6 k e w := rfl
abbrev b273_7 : X := (.blk 0 (.loop [3, 4, 5] [1] t273_6))
def t273_7 := b273_7
theorem u273_7 : vcK P t273_7 k e w = vcK P b273_7 k e w := rfl
abbrev b273_8 : X := (.seq (.reg [2] (.c (.q 29 [] (.mv (.t 3))) (.c (.q 2 [] (.mv (.t 29))) .nil))) .ret)
def t273_8 := b273_8
theorem u273_8 : vcK P t273_8 k e w = vcK P b273_8 k e w := rfl
abbrev b273_9 : X := (.seq (.seq (.reg [1, 3, 4, 5] (.c (.q 11 [] (.lda 3 (.t 1))) (.c (.e (some 12) [] (.call false 307 [(.t 11)])) (.c (.e (some 13) [] (.call false 223 [(.t 12)])) (.c (.q 5 [] (.mv (.t 13))) .nil))))) t273_7) t273_8)
def t273_9 := b273_9
theorem u273_9 : vcK P t273_9 k e w = vcK P b273_9 k e w := rfl
abbrev b273_10 : X := (.seq (.reg [1, 3, 4] (.c (.q 8 [] (.fa 1 (.t 1))) (.c (.q 9 [] (.ld (.t 8))) (.c (.e (some 10) [] (.call false 260 [(.t 9)])) (.c (.q 4 [] (.mv (.t 10))) .nil))))) t273_9)
def t273_10 := b273_10
theorem u273_10 : vcK P t273_10 k e w = vcK P b273_10 k e w := rfl
abbrev b273_11 : X := (.seq (.reg [1, 3] (.c (.q 3 [] (.mv (.c (.slice none 0 0)))) .nil)) t273_10)
def t273_11 := b273_11
theorem u273_11 : vcK P t273_11 k e w = vcK P b273_11 k e w := rfl
abbrev b273_0 : X := (.seq (.reg [1] (.c (.e (some 1) [] (.box 26 (.t 0))) (.c (.q 2 [] (.mv (.c (.slice none 0 0)))) .nil))) t273_11)
def x_sl4Course := b273_0
theorem u273_0 : vcK P x_sl4Course k e w = vcK P b273_0 k e w := rfl
def r_sl4Course : List XO := [(.mv (.t 2))]
theorem c_sl4Course : convF Try.prog [147, 148, 152, 160, 162, 163, 170, 178, 206, 208, 210, 224, 233, 235, 236, 251, 264, 265, 268, 270, 287, 322] Try.f273 [([1], []), ([1, 3], []), ([1, 3, 4], []), ([1, 3, 4, 5], []), ([3, 4, 5], [1]), ([1, 3, 4, 5, 15], []), ([1, 3, 5, 6, 7], []), ([1, 3, 5, 7], []), ([1, 3, 4, 5], []), ([1, 3, 4, 5], []), ([2], [])] = some (x_sl4Course, r_sl4Course) := by kernel_rfl
def us_sl4Course :=  (aI (aI (aI @u273_0 (aI @u273_1 @u273_2)) (aI @u273_3 (aI @u273_4 @u273_5))) (aI (aI @u273_6 (aI @u273_7 @u273_8)) (aI @u273_9 (aI @u273_10 @u273_11))))
end

/-- The lead head of changes. -/
def hdL (st : Nat) (cs : List (List UInt8)) : List UInt8 := underL (roundsL st) cs
/-- The rows of a course of k leads. -/
def courseT (st : Nat) (cs : List (List UInt8)) (k : Nat) : List (List UInt8) := leadsL cs ((List.range k).map (powL (hdL st cs)))
/-- Are the rows of a course of k leads asked? -/
def CrsOk (nm : List UInt8) (st : Int) (cs : List (List UInt8)) (k : Nat) : Prop := IsMethod nm st cs ∧ k * cs.length ≤ 800
instance (nm : List UInt8) (st : Int) (cs : List (List UInt8)) (k : Nat) : Decidable (CrsOk nm st cs k) := by unfold CrsOk; infer_instance
def crsV (nm : List UInt8) (st : Int) (cs : List (List UInt8)) (k : Nat) : List (List UInt8) := if CrsOk nm st cs k then courseT st.toNat cs k else []
def liV (nm : List UInt8) (st : Int) (cs : List (List UInt8)) (k : Nat) : Value := .tuple ⟨[.int .i64 (if IsMethod nm st cs then (k : Int) else 0), .bool (decide (IsMethod nm st cs))]⟩
theorem hdL_row {n : Nat} (hn : 3 ≤ n ∧ n ≤ 8) (cs : List (List UInt8)) : IsRow (hdL n cs) ∧ (hdL n cs).length = n := under_row hn cs
theorem powL_head (cs : List (List UInt8)) {n : Nat} (hn : 3 ≤ n ∧ n ≤ 8) (i : Nat) : underL (powL (hdL n cs) i) cs = powL (hdL n cs) (i + 1) := by
  have hR := hdL_row hn cs
  rw [under_times cs (powL_row hR.1 i), powL_len, hR.2]
  rfl
section
variable (nm : List UInt8) (st : Int) (v : Value) (cs : List (List UInt8)) (k : Nat) (hnm : nm.length ≤ 1048576) (hs : ∀ c ∈ cs, c.length ≤ 1048576) (hl : cs.length ≤ 1000000000) (hk : IsMethod nm st cs → IsOrd (hdL st.toNat cs) k)
include hnm hs hl hk
theorem iLeadsIn_ok (w : World) (h : Sq fS 1 w v cs) : Fn 63 [mV nm st v] w (fun r _ => r = liV nm st cs k) := by
  (refine callsV_of mix Try.func63 c_iLeadsIn ?_; simp only [↓vsd, vsn, gW, qd, qv, ev, pick, argE, zipE, ne_eq, eq_self, forall_const, implies_true, if_true, if_false, reduceIte, reduceCtorEq, Nat.reduceEqDiff, Nat.reduceAdd, Nat.reduceLT, ↓us_iLeadsIn, r_iLeadsIn])
  refine m_al ?_
  rintro b1 w1 hb1 hblk1 hx1 hs1
  have h1 : Blk w1 b1 (fM nm st v) 26 := hblk1
  simp only [↓vsd, vsn, gW, qd, qv, ev, pick, argE, zipE, ne_eq, eq_self, forall_const, implies_true, if_true, if_false, reduceIte, reduceCtorEq, Nat.reduceEqDiff, Nat.reduceAdd, Nat.reduceLT, ↓us_iLeadsIn, r_iLeadsIn, h1.facts, fMg]
  refine m_call (iGoodMethod_ok nm st v cs hnm hs hl _ (h.ext hx1)) ?_
  rintro _ w2 hx2 rfl
  have hx12 := hx1.trans hx2
  have h2 := h1.ext hx2
  by_cases hm : IsMethod nm st cs
  · have hD := decide_eq_true hm
    have hR := hdL_row (n := st.toNat) (by have := hm.2.1; omega) cs
    have hO := hk hm
    simp only [↓vsd, vsn, gW, qd, qv, ev, pick, argE, zipE, ne_eq, eq_self, forall_const, implies_true, if_true, if_false, reduceIte, reduceCtorEq, Nat.reduceEqDiff, Nat.reduceAdd, Nat.reduceLT, ↓us_iLeadsIn, r_iLeadsIn, hD, h2.facts, fMg]
    refine m_call (ileadHead_ok nm st v cs hm _ (by first | exact h.ext hx12 | exact h.ext (dr hx12))) ?_
    rintro _ w3 hx3 rfl
    have hx3 : Ext w2 w3 := by first | exact hx3 | exact ud hx3 | exact ud (ud hx3)
    simp only [↓vsd, vsn, gW, qd, qv, ev, pick, argE, zipE, ne_eq, eq_self, forall_const, implies_true, if_true, if_false, reduceIte, reduceCtorEq, Nat.reduceEqDiff, Nat.reduceAdd, Nat.reduceLT, ↓us_iLeadsIn, r_iLeadsIn]
    refine m_call (ipowers_ok (hdL st.toNat cs) k hR.1 hO _) ?_
    rintro x w4 hx4 ho4
    have hpl : ((List.range k).map (powL (hdL st.toNat cs))).length = k := by simp
    simp only [↓vsd, vsn, gW, qd, qv, ev, pick, argE, zipE, ne_eq, eq_self, forall_const, implies_true, if_true, if_false, reduceIte, reduceCtorEq, Nat.reduceEqDiff, Nat.reduceAdd, Nat.reduceLT, ↓us_iLeadsIn, r_iLeadsIn, ho4.sq.facts, hpl]
    exact ⟨(hx12.trans hx3).trans hx4, by rw [liV, if_pos hm, hD]⟩
  · have hD := decide_eq_false hm
    simp only [↓vsd, vsn, gW, qd, qv, ev, pick, argE, zipE, ne_eq, eq_self, forall_const, implies_true, if_true, if_false, reduceIte, reduceCtorEq, Nat.reduceEqDiff, Nat.reduceAdd, Nat.reduceLT, ↓us_iLeadsIn, r_iLeadsIn, hD]
    exact ⟨hx12, by rw [liV, if_neg hm, hD]⟩
end
theorem sl4Course_ok (nm : List UInt8) (n : Nat) (v : Value) (cs : List (List UInt8)) (k : Nat) (hm : IsMethod nm n cs) (hO : IsOrd (hdL n cs) k) (w : World) (h : Sq fS 1 w v cs) : Fn 273 [mV nm n v] w (fun r w' => Own fS 1 9 w.heap.size w' r (courseT n cs k)) := by
  have hR := hdL_row (n := n) (by have := hm.2.1; omega) cs
  have hcl := hm.2.2.1
  have h8 := hm.2.1
  (refine callsV_of mix Try.func273 c_sl4Course ?_; simp only [↓vsd, vsn, gW, qd, qv, ev, pick, argE, zipE, ne_eq, eq_self, forall_const, implies_true, if_true, if_false, reduceIte, reduceCtorEq, Nat.reduceEqDiff, Nat.reduceAdd, Nat.reduceLT, ↓us_sl4Course, r_sl4Course])
  refine m_al ?_
  rintro b1 w1 hb1 hblk1 hx1 hs1
  have h1 : Blk w1 b1 (fM nm n v) 26 := hblk1
  simp only [↓vsd, vsn, gW, qd, qv, ev, pick, argE, zipE, ne_eq, eq_self, forall_const, implies_true, if_true, if_false, reduceIte, reduceCtorEq, Nat.reduceEqDiff, Nat.reduceAdd, Nat.reduceLT, ↓us_sl4Course, r_sl4Course, h1.facts, fMg]
  refine m_call (sl1Rounds_ok n (by omega) _) ?_
  rintro _ w2 hx2 rfl
  have hx12 := hx1.trans hx2
  have h2 := h1.ext hx2
  simp only [↓vsd, vsn, gW, qd, qv, ev, pick, argE, zipE, ne_eq, eq_self, forall_const, implies_true, if_true, if_false, reduceIte, reduceCtorEq, Nat.reduceEqDiff, Nat.reduceAdd, Nat.reduceLT, ↓us_sl4Course, r_sl4Course, h2.facts, fMg]
  refine m_call (sl4Head_ok nm n v cs hm _ (by first | exact h.ext hx12 | exact h.ext (dr hx12))) ?_
  rintro _ w3 hx3 rfl
  have hx3 : Ext w2 w3 := by first | exact hx3 | exact ud hx3 | exact ud (ud hx3)
  rw [Int.toNat_natCast]
  simp only [↓vsd, vsn, gW, qd, qv, ev, pick, argE, zipE, ne_eq, eq_self, forall_const, implies_true, if_true, if_false, reduceIte, reduceCtorEq, Nat.reduceEqDiff, Nat.reduceAdd, Nat.reduceLT, ↓us_sl4Course, r_sl4Course]
  refine m_call (sl1Order_ok (hdL n cs) k hR.1 hO _) ?_
  rintro _ w4 hx4 rfl
  have hx4 : Ext w3 w4 := by first | exact hx4 | exact ud hx4 | exact ud (ud hx4)
  have hx14 := (hx12.trans hx3).trans hx4
  have hk840 := hO.2.1
  simp only [↓vsd, vsn, gW, qd, qv, ev, pick, argE, zipE, ne_eq, eq_self, forall_const, implies_true, if_true, if_false, reduceIte, reduceCtorEq, Nat.reduceEqDiff, Nat.reduceAdd, Nat.reduceLT, ↓us_sl4Course, r_sl4Course]
  have hpl : ∀ i, ((List.range i).map (powL (hdL n cs))).length = i := fun i => by simp
  have hstep : ∀ i, leadsL cs ((List.range (i + 1)).map (powL (hdL n cs))) = leadsL cs ((List.range i).map (powL (hdL n cs))) ++ rowsU (powL (hdL n cs) i) cs cs.length := fun i => by
    rw [List.range_succ, List.map_append, leadsL, List.flatMap_append]
    simp [leadsL]
  have hx24 := (hx2.trans hx3).trans hx4
  refine m_loop (fun j vs w' => ∃ y, j ≤ k ∧ vs = [y, S (powL (hdL n cs) (k - j)), .int .i64 j] ∧ Own fS 1 9 w1.heap.size w' y (leadsL cs ((List.range (k - j)).map (powL (hdL n cs)))) ∧ Ext w1 w') k ⟨_, Nat.le_refl _, by rw [Nat.sub_self]; show _ = [_, S (roundsL (hdL n cs).length), _]; rw [hR.2], by rw [Nat.sub_self]; exact Own.nil fS_len, hx24⟩ ?_
  rintro j vs w5 ⟨y, hj, rfl, ho5, hx5⟩
  have h5 := h1.ext hx5
  have hx15 := hx1.trans hx5
  by_cases hj0 : 0 < j
  · have hjI : 0 < (j : Int) := by omega
    have hjJ : ¬ (j : Int) ≤ 0 := by omega
    simp only [↓vsd, vsn, gW, qd, qv, ev, pick, argE, zipE, ne_eq, eq_self, forall_const, implies_true, if_true, if_false, reduceIte, reduceCtorEq, Nat.reduceEqDiff, Nat.reduceAdd, Nat.reduceLT, ↓us_sl4Course, r_sl4Course, hjI, hjJ, h5.facts, fMg]
    refine m_call (sl4Lead_ok (powL (hdL n cs) (k - j)) v cs n (powL_row hR.1 _) hm.2.2.2 hcl.2 _ (by first | exact h.ext hx15 | exact h.ext (dr hx15))) ?_
    rintro _ w6 hx6 ⟨z, rfl, ho6⟩
    have hx6 : Ext w5 w6 := by first | exact hx6 | exact ud hx6 | exact ud (ud hx6)
    rw [powL_head cs (by omega)]
    simp only [↓vsd, vsn, gW, qd, qv, ev, pick, argE, zipE, ne_eq, eq_self, forall_const, implies_true, if_true, if_false, reduceIte, reduceCtorEq, Nat.reduceEqDiff, Nat.reduceAdd, Nat.reduceLT, ↓us_sl4Course, r_sl4Course]
    have hll := leadsL_len cs ((List.range (k - j)).map (powL (hdL n cs)))
    rw [hpl] at hll
    have hb1 : (k - j) * cs.length ≤ 33600 := Nat.mul_le_mul (show k - j ≤ 840 by omega) hcl.2
    refine m_app (ho5.ext hx6) ho6.sq fS_one (by decide) (by rw [hll, rowsU_len]; omega) (by decide) (hx5.trans hx6).size ?_
    rintro z' w7 ho7 hg7
    have hx7 := (ho5.ext hx6).grown (hx5.trans hx6) (Nat.le_refl _) hg7
    simp only [↓vsd, vsn, gW, qd, qv, ev, pick, argE, zipE, ne_eq, eq_self, forall_const, implies_true, if_true, if_false, reduceIte, reduceCtorEq, Nat.reduceEqDiff, Nat.reduceAdd, Nat.reduceLT, ↓us_sl4Course, r_sl4Course]
    have e1 : k - (j - 1) = k - j + 1 := by omega
    exact ⟨inR_i64 (by omega), j - 1, by omega, z', by omega, ⟨rfl, by rw [e1], by rw [show ((j : Int) - 1) = ((j - 1 : Nat) : Int) by omega]⟩, ho7.to (by rw [e1, hstep]), hx7⟩
  · have hjI : ¬ 0 < (j : Int) := by omega
    simp only [↓vsd, vsn, gW, qd, qv, ev, pick, argE, zipE, ne_eq, eq_self, forall_const, implies_true, if_true, if_false, reduceIte, reduceCtorEq, Nat.reduceEqDiff, Nat.reduceAdd, Nat.reduceLT, ↓us_sl4Course, r_sl4Course, hjI]
    obtain rfl : j = 0 := by omega
    rw [Nat.sub_zero] at ho5
    exact ⟨hx15, ho5.mono hx1.size⟩
section
variable (nm : List UInt8) (st : Int) (v : Value) (cs : List (List UInt8)) (k : Nat) (hnm : nm.length ≤ 1048576) (hs : ∀ c ∈ cs, c.length ≤ 1048576) (hl : cs.length ≤ 1000000000) (hk : IsMethod nm st cs → IsOrd (hdL st.toNat cs) k)
include hnm hs hl hk
end
end Go.Proofs.Ytnincmnkdjlndaa
