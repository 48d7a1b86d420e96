/-
  Rows that follow each other, and the rows of a lead as the program gives them.
  Conditions: none.
-/
import Derived.Test.YtpnopboffalfnaaA46
import Derived.Test.YtpnopboffalfnaaA22
import Derived.Test.YtpnopboffalfnaaA27
set_option linter.unusedSimpArgs false
set_option linter.unusedVariables false
set_option linter.defProp false
namespace Go.Proofs.Ytpnopboffalfnaa
open Go Go.RowKit
section
variable (P : Program) (k : KT) (e : Env) (w : World)
abbrev b243_1 : X := (.cond (.t 11) (.seq (.reg [2, 3] (.c (.q 2 [] (.mv (.c (.slice none 0 0)))) (.c (.q 3 [] (.mv (.c (.bool false)))) .nil))) .ret) .skip)
def t243_1 := b243_1
theorem u243_1 : vcK P t243_1 k e w = vcK P b243_1 k e w := rfl
abbrev b243_2 : X := (.cond (.t 34) (.seq (.reg [2, 3] (.c (.q 2 [] (.mv (.c (.slice none 0 0)))) (.c (.q 3 [] (.mv (.c (.bool false)))) .nil))) .ret) .skip)
def t243_2 := b243_2
theorem u243_2 : vcK P t243_2 k e w = vcK P b243_2 k e w := rfl
abbrev b243_3 : X := (.reg [0, 4, 13, 14, 15] (.c (.q 35 [] (.mv (.t 4))) (.c (.q 36 [] (.mv (.t 7))) (.c (.e (some 37) [] (.bsl 9 1 [(.t 36)])) (.c (.e (some 38) [] (.app 27 9 1 16 [(S [])] 27 (.t 35) (.t 37))) (.c (.q 4 [] (.mv (.t 38))) .nil))))))
def t243_3 := b243_3
theorem u243_3 : vcK P t243_3 k e w = vcK P b243_3 k e w := rfl
abbrev b243_4 : X := (.seq (.seq (.reg [0, 4, 7, 13, 14, 15, 34] (.c (.q 33 [] (.mv (.t 8))) (.c (.q 34 [] (.not (.t 33))) .nil))) t243_2) t243_3)
def t243_4 := b243_4
theorem u243_4 : vcK P t243_4 k e w = vcK P b243_4 k e w := rfl
abbrev b243_5 : X := (.seq (.reg [0, 4, 7, 8, 13, 14, 15] (.c (.q 21 [] (.mv (.t 6))) (.c (.q 22 [] (.mv (.t 0))) (.c (.q 23 [] (.mv (.t 5))) (.c (.q 24 [] (.bin .add (.t 23) (.c (.int .i64 1)))) (.c (.q 25 [] (.mv (.t 0))) (.c (.q 26 [] (.lens (.t 25))) (.c (.q 27 [] (.bin .rem (.t 24) (.t 26))) (.c (.q 28 [] (.ia 1 (.t 22) (.t 27))) (.c (.q 29 [] (.ld (.t 28))) (.c (.e (some 30) [] (.call false 303 [(.t 21), (.t 29)])) (.c (.q 20 [] (.mv (.t 30))) (.c (.q 31 [] (.ext 0 (.t 20))) (.c (.q 32 [] (.ext 1 (.t 20))) (.c (.q 7 [] (.mv (.t 31))) (.c (.q 8 [] (.mv (.t 32))) .nil)))))))))))))))) t243_4)
def t243_5 := b243_5
theorem u243_5 : vcK P t243_5 k e w = vcK P b243_5 k e w := rfl
abbrev b243_6 : X := (.reg [0, 4, 13, 14, 15] (.c (.q 39 [] (.bin .add (.t 15) (.c (.int .i64 1)))) (.c (.q 15 [] (.mv (.t 39))) .nil)))
def t243_6 := b243_6
theorem u243_6 : vcK P t243_6 k e w = vcK P b243_6 k e w := rfl
abbrev b243_7 : X := (.seq (.blk 1 (.seq (.reg [0, 4, 5, 6, 13, 14, 15] (.c (.q 17 [] (.mv (.t 15))) (.c (.q 18 [] (.ia 1 (.t 13) (.t 15))) (.c (.q 19 [] (.ld (.t 18))) (.c (.q 5 [] (.mv (.t 17))) (.c (.q 6 [] (.mv (.t 19))) .nil)))))) t243_5)) t243_6)
def t243_7 := b243_7
theorem u243_7 : vcK P t243_7 k e w = vcK P b243_7 k e w := rfl
abbrev b243_8 : X := (.seq (.cond (.t 16) .skip (.exit 0)) t243_7)
def t243_8 := b243_8
theorem u243_8 : vcK P t243_8 k e w = vcK P b243_8 k e w := rfl
abbrev b243_9 : X := (.seq (.reg [0, 4, 13, 14, 15, 16] (.c (.q 16 [] (.bin .lss (.t 15) (.t 14))) .nil)) t243_8)
def t243_9 := b243_9
theorem u243_9 : vcK P t243_9 k e w = vcK P b243_9 k e w := rfl
abbrev b243_10 : X := (.blk 0 (.loop [4, 15] [0, 13, 14] t243_9))
def t243_10 := b243_10
theorem u243_10 : vcK P t243_10 k e w = vcK P b243_10 k e w := rfl
abbrev b243_11 : X := (.seq (.reg [2, 3] (.c (.q 40 [] (.mv (.t 4))) (.c (.q 2 [] (.mv (.t 40))) (.c (.q 3 [] (.mv (.c (.bool true)))) .nil)))) .ret)
def t243_11 := b243_11
theorem u243_11 : vcK P t243_11 k e w = vcK P b243_11 k e w := rfl
abbrev b243_12 : X := (.seq (.seq (.reg [0, 4, 13, 14, 15] (.c (.q 13 [] (.mv (.t 0))) (.c (.q 14 [] (.lens (.t 13))) (.c (.q 15 [] (.mv (.c (.int .i64 0)))) .nil)))) t243_10) t243_11)
def t243_12 := b243_12
theorem u243_12 : vcK P t243_12 k e w = vcK P b243_12 k e w := rfl
abbrev b243_13 : X := (.seq (.reg [0, 4] (.c (.e (some 12) [] (.bsl 9 1 [])) (.c (.q 4 [] (.mv (.t 12))) .nil))) t243_12)
def t243_13 := b243_13
theorem u243_13 : vcK P t243_13 k e w = vcK P b243_13 k e w := rfl
abbrev b243_14 : X := (.seq (.seq (.reg [0, 11] (.c (.q 9 [] (.mv (.t 0))) (.c (.q 10 [] (.lens (.t 9))) (.c (.q 11 [] (.bin .lss (.t 10) (.c (.int .i64 2)))) .nil)))) t243_1) t243_13)
def t243_14 := b243_14
theorem u243_14 : vcK P t243_14 k e w = vcK P b243_14 k e w := rfl
abbrev b243_0 : X := (.seq (.reg [0] (.c (.q 2 [] (.mv (.c (.slice none 0 0)))) (.c (.q 3 [] (.mv (.c (.bool false)))) .nil))) t243_14)
def x_ichangesIn := b243_0
theorem u243_0 : vcK P x_ichangesIn k e w = vcK P b243_0 k e w := rfl
def r_ichangesIn : List XO := [(.mv (.t 2)), (.mv (.t 3))]
theorem c_ichangesIn : convF Try.prog [169, 170, 207, 208, 210, 227, 232, 233, 255, 259, 268, 269, 270, 280, 281, 296, 299, 306, 307, 309] Try.f243 [([0], []), ([0, 11], []), ([2, 3], []), ([0, 4], []), ([0, 4, 13, 14, 15], []), ([4, 15], [0, 13, 14]), ([0, 4, 13, 14, 15, 16], []), ([0, 4, 5, 6, 13, 14, 15], []), ([0, 4, 7, 8, 13, 14, 15], []), ([0, 4, 7, 13, 14, 15, 34], []), ([2, 3], []), ([0, 4, 13, 14, 15], []), ([0, 4, 13, 14, 15], []), ([2, 3], [])] = some (x_ichangesIn, r_ichangesIn) := by kernel_rfl
def us_ichangesIn := aI @u243_0 (aI @u243_1 (aI @u243_2 (aI @u243_3 (aI @u243_4 (aI @u243_5 (aI @u243_6 (aI @u243_7 (aI @u243_8 (aI @u243_9 (aI @u243_10 (aI @u243_11 (aI @u243_12 (aI @u243_13 @u243_14)))))))))))))
abbrev b120_1 : X := (.cond (.t 8) (.seq (.reg [2, 3] (.c (.q 2 [] (.mv (.c (.bool false)))) (.c (.q 3 [] (.mv (.c (.bool false)))) .nil))) .ret) .skip)
def t120_1 := b120_1
theorem u120_1 : vcK P t120_1 k e w = vcK P b120_1 k e w := rfl
abbrev b120_2 : X := (.seq (.reg [2, 3] (.c (.q 14 [] (.mv (.t 5))) (.c (.q 2 [] (.mv (.t 14))) (.c (.q 3 [] (.mv (.c (.bool true)))) .nil)))) .ret)
def t120_2 := b120_2
theorem u120_2 : vcK P t120_2 k e w = vcK P b120_2 k e w := rfl
abbrev b120_3 : X := (.seq (.reg [5] (.c (.q 10 [] (.mv (.t 0))) (.c (.e (some 11) [] (.call false 243 [(.t 10)])) (.c (.q 9 [] (.mv (.t 11))) (.c (.q 12 [] (.ext 0 (.t 9))) (.c (.q 13 [] (.ext 1 (.t 9))) (.c (.q 4 [] (.mv (.t 12))) (.c (.q 5 [] (.mv (.t 13))) .nil)))))))) t120_2)
def t120_3 := b120_3
theorem u120_3 : vcK P t120_3 k e w = vcK P b120_3 k e w := rfl
abbrev b120_4 : X := (.seq (.seq (.reg [0, 8] (.c (.q 6 [] (.mv (.t 0))) (.c (.e (some 7) [] (.call false 242 [(.t 6)])) (.c (.q 8 [] (.not (.t 7))) .nil)))) t120_1) t120_3)
def t120_4 := b120_4
theorem u120_4 : vcK P t120_4 k e w = vcK P b120_4 k e w := rfl
abbrev b120_0 : X := (.seq (.reg [0] (.c (.q 2 [] (.mv (.c (.bool false)))) (.c (.q 3 [] (.mv (.c (.bool false)))) .nil))) t120_4)
def x_iAreNext := b120_0
theorem u120_0 : vcK P x_iAreNext k e w = vcK P b120_0 k e w := rfl
def r_iAreNext : List XO := [(.mv (.t 2)), (.mv (.t 3))]
theorem c_iAreNext : convF Try.prog [169, 170, 207, 208, 210, 227, 232, 233, 255, 259, 268, 269, 270, 280, 281, 296, 299, 306, 307, 309] Try.f120 [([0], []), ([0, 8], []), ([2, 3], []), ([5], []), ([2, 3], [])] = some (x_iAreNext, r_iAreNext) := by kernel_rfl
def us_iAreNext := aI @u120_0 (aI @u120_1 (aI @u120_2 (aI @u120_3 @u120_4)))
abbrev b38_1 : X := (.cond (.t 15) (.seq (.reg [4, 5] (.c (.q 4 [] (.mv (.c (.slice none 0 0)))) (.c (.q 5 [] (.mv (.c (.bool false)))) .nil))) .ret) .skip)
def t38_1 := b38_1
theorem u38_1 : vcK P t38_1 k e w = vcK P b38_1 k e w := rfl
abbrev b38_2 : X := (.seq (.reg [4, 5] (.c (.q 16 [] (.lda 3 (.t 2))) (.c (.q 17 [] (.mv (.t 1))) (.c (.e (some 18) [] (.call false 157 [(.t 16), (.t 17)])) (.c (.e (some 19) [] (.call false 180 [(.t 18)])) (.c (.q 4 [] (.mv (.t 19))) (.c (.q 5 [] (.mv (.c (.bool true)))) .nil))))))) .ret)
def t38_2 := b38_2
theorem u38_2 : vcK P t38_2 k e w = vcK P b38_2 k e w := rfl
abbrev b38_3 : X := (.seq (.seq (.reg [1, 2, 15] (.c (.q 6 [] (.lda 3 (.t 2))) (.c (.e (some 7) [] (.call false 113 [(.t 6)])) (.c (.q 8 [] (.not (.t 7))) (.c (.q 9 [] (.mv (.t 8))) (.c (.q 10 [(9, false)] (.fa 1 (.t 2))) (.c (.q 11 [(9, false)] (.ld (.t 10))) (.c (.q 12 [(9, false)] (.mv (.t 1))) (.c (.e (some 13) [(9, false)] (.call false 179 [(.t 11), (.t 12)])) (.c (.q 14 [(9, false)] (.not (.t 13))) (.c (.q 15 [] (.pick (.t 9) (.c (.bool true)) (.t 14))) .nil))))))))))) t38_1) t38_2)
def t38_3 := b38_3
theorem u38_3 : vcK P t38_3 k e w = vcK P b38_3 k e w := rfl
abbrev b38_0 : X := (.seq (.reg [1, 2] (.c (.e (some 2) [] (.box 41 (.t 0))) (.c (.q 4 [] (.mv (.c (.slice none 0 0)))) (.c (.q 5 [] (.mv (.c (.bool false)))) .nil)))) t38_3)
def x_iLeadRows := b38_0
theorem u38_0 : vcK P x_iLeadRows k e w = vcK P b38_0 k e w := rfl
def r_iLeadRows : List XO := [(.mv (.t 4)), (.mv (.t 5))]
theorem c_iLeadRows : convF Try.prog [169, 170, 207, 208, 210, 227, 232, 233, 255, 259, 268, 269, 270, 280, 281, 296, 299, 306, 307, 309] Try.f38 [([1, 2], []), ([1, 2, 15], []), ([4, 5], []), ([4, 5], [])] = some (x_iLeadRows, r_iLeadRows) := by kernel_rfl
def us_iLeadRows := aI @u38_0 (aI @u38_1 (aI @u38_2 @u38_3))
end

/-- Each row leads to the next one, the last to the first, by a change. -/
def NextR (l : List (List UInt8)) : Prop := ∀ i < l.length, ∃ c, IsChange (l.getD i []).length c ∧ l.getD ((i + 1) % l.length) [] = applyL (l.getD i []) c
theorem ichangesIn_ok (v : Value) (l : List (List UInt8)) (hr : ∀ r ∈ l, IsRow r) (h2 : 2 ≤ l.length) (h8 : l.length ≤ 800) (hn : NextR l) (w : World) (h : Sq fS 1 w v l) : Fn 243 [v] w (fun r _ => ∃ x, r = .tuple ⟨[x, .bool true]⟩) := by
  (refine callsV_of mix Try.func243 c_ichangesIn ?_; simp only [↓vsd, vsn, gW, qd, qv, ev, pick, argE, zipE, ne_eq, eq_self, forall_const, implies_true, if_true, if_false, reduceIte, reduceCtorEq, Nat.reduceEqDiff, Nat.reduceAdd, Nat.reduceLT, ↓us_ichangesIn, r_ichangesIn])
  have h2I : ¬ (l.length : Int) < 2 := by omega
  simp only [↓vsd, vsn, gW, qd, qv, ev, pick, argE, zipE, ne_eq, eq_self, forall_const, implies_true, if_true, if_false, reduceIte, reduceCtorEq, Nat.reduceEqDiff, Nat.reduceAdd, Nat.reduceLT, ↓us_ichangesIn, r_ichangesIn, h.facts, h2I]
  try refine ⟨fun hh => by omega, fun _ => ?_⟩
  refine m_bsl (by simp) ?_
  rintro b1 w1 hb1 hblk1 hx1 hs1
  have hq1 := h.ext hx1
  simp only [↓vsd, vsn, gW, qd, qv, ev, pick, argE, zipE, ne_eq, eq_self, forall_const, implies_true, if_true, if_false, reduceIte, reduceCtorEq, Nat.reduceEqDiff, Nat.reduceAdd, Nat.reduceLT, ↓us_ichangesIn, r_ichangesIn, hq1.facts]
  refine m_upto l.length (fun i vs w' => ∃ y L, vs = [y, .int .i64 i] ∧ Own fS 1 9 w.heap.size w' y L ∧ L.length = i ∧ Ext w w') ⟨_, _, rfl, Own.empty fS_len hblk1 (by omega), rfl, hx1⟩ ?_
  rintro i vs w2 hi ⟨y, L, rfl, ho2, hL, hx2⟩
  have hq2 := h.ext hx2
  by_cases hlt : i < l.length
  · have hltI : (i : Int) < l.length := by omega
    have hltJ : ¬ (l.length : Int) ≤ i := by omega
    have hmod : ((i : Int) + 1).tmod (l.length : Int) = (((i + 1) % l.length : Nat) : Int) := (Int.ofNat_tmod (i + 1) l.length).symm
    have hml : (i + 1) % l.length < l.length := Nat.mod_lt _ (by omega)
    obtain ⟨c, hc, hap⟩ := hn i hlt
    have hri := hr _ (getD_mem [] hlt)
    have hrl := hri.1
    simp only [↓vsd, vsn, gW, qd, qv, ev, pick, argE, zipE, ne_eq, eq_self, forall_const, implies_true, if_true, if_false, reduceIte, reduceCtorEq, Nat.reduceEqDiff, Nat.reduceAdd, Nat.reduceLT, ↓us_ichangesIn, r_ichangesIn, hltI, hltJ, hmod, hq2.facts, hq2.at1 [] hlt, hq2.at1 [] hml]
    refine ⟨by omega, inR_i64 (by omega), by omega, ⟨by omega, by omega⟩, m_call (ibetween_ok _ _ hri (by rw [hap, applyL_len]) _) ?_⟩
    rintro re w3 hx3 hre
    rw [hap, btw_chg hri hc] at hre
    simp only [btwV] at hre
    subst hre
    have hx3 : Ext w2 w3 := by first | exact hx3 | exact ud hx3 | exact ud (ud hx3)
    simp only [↓vsd, vsn, gW, qd, qv, ev, pick, argE, zipE, ne_eq, eq_self, forall_const, implies_true, if_true, if_false, reduceIte, reduceCtorEq, Nat.reduceEqDiff, Nat.reduceAdd, Nat.reduceLT, ↓us_ichangesIn, r_ichangesIn]
    refine m_bsl (one_el rfl) ?_
    rintro b4 w4 hb4 hblk4 hx4 hs4
    simp only [↓vsd, vsn, gW, qd, qv, ev, pick, argE, zipE, ne_eq, eq_self, forall_const, implies_true, if_true, if_false, reduceIte, reduceCtorEq, Nat.reduceEqDiff, Nat.reduceAdd, Nat.reduceLT, ↓us_ichangesIn, r_ichangesIn]
    have ho4 := (ho2.ext hx3).ext hx4
    refine m_app ho4 (Sq.one fS_len hblk4 rfl) fS_one (by decide) (by simp; omega) (by decide) ((hx2.trans hx3).trans hx4).size ?_
    rintro y5 w5 ho5 hg5
    simp only [↓vsd, vsn, gW, qd, qv, ev, pick, argE, zipE, ne_eq, eq_self, forall_const, implies_true, if_true, if_false, reduceIte, reduceCtorEq, Nat.reduceEqDiff, Nat.reduceAdd, Nat.reduceLT, ↓us_ichangesIn, r_ichangesIn]
    exact ⟨inR_i64 (by omega), UpTo.next hlt ⟨y5, _, rfl, ho5, by simp [hL], ho4.grown ((hx2.trans hx3).trans hx4) (Nat.le_refl _) hg5⟩⟩
  · obtain rfl : i = l.length := by omega
    have hltI : ¬ (l.length : Int) < l.length := by omega
    simp only [↓vsd, vsn, gW, qd, qv, ev, pick, argE, zipE, ne_eq, eq_self, forall_const, implies_true, if_true, if_false, reduceIte, reduceCtorEq, Nat.reduceEqDiff, Nat.reduceAdd, Nat.reduceLT, ↓us_ichangesIn, r_ichangesIn, hltI]
    exact ⟨hx2, y, rfl⟩
theorem iAreNext_ok (v : Value) (l : List (List UInt8)) (hr : IsRows l) (h2 : 2 ≤ l.length) (hn : NextR l) (w : World) (h : Sq fS 1 w v l) : Fn 120 [v] w (fun r _ => r = .tuple ⟨[.bool true, .bool true]⟩) := by
  (refine callsV_of mix Try.func120 c_iAreNext ?_; simp only [↓vsd, vsn, gW, qd, qv, ev, pick, argE, zipE, ne_eq, eq_self, forall_const, implies_true, if_true, if_false, reduceIte, reduceCtorEq, Nat.reduceEqDiff, Nat.reduceAdd, Nat.reduceLT, ↓us_iAreNext, r_iAreNext])
  have h8 := hr.2
  refine m_call (iGoodRows_ok v l (by omega) _ h) ?_
  rintro _ w1 hx1 rfl
  have hD := decide_eq_true hr
  simp only [↓vsd, vsn, gW, qd, qv, ev, pick, argE, zipE, ne_eq, eq_self, forall_const, implies_true, if_true, if_false, reduceIte, reduceCtorEq, Nat.reduceEqDiff, Nat.reduceAdd, Nat.reduceLT, ↓us_iAreNext, r_iAreNext, hD]
  refine m_call (ichangesIn_ok v l (fun r hm => (hr.1 r hm).1) h2 h8 hn _ (h.ext hx1)) ?_
  rintro _ w2 hx2 ⟨x, rfl⟩
  simp only [↓vsd, vsn, gW, qd, qv, ev, pick, argE, zipE, ne_eq, eq_self, forall_const, implies_true, if_true, if_false, reduceIte, reduceCtorEq, Nat.reduceEqDiff, Nat.reduceAdd, Nat.reduceLT, ↓us_iAreNext, r_iAreNext]
  exact hx1.trans hx2
theorem iLeadRows_ok (nm : List UInt8) (st : Int) (v : Value) (cs : List (List UInt8)) (l : List UInt8) (hnm : nm.length ≤ 1048576) (hs : ∀ c ∈ cs, c.length ≤ 1048576) (hl : cs.length ≤ 1000000000) (w : World) (h : Sq fS 1 w v cs) : Fn 38 [mV nm st v, S l] w (fun r w' => ∃ x, r = .tuple ⟨[x, .bool (decide (LeadOk nm st cs l))]⟩ ∧ Own fS 1 9 w.heap.size w' x (leadV nm st cs l)) := by
  (refine callsV_of mix Try.func38 c_iLeadRows ?_; simp only [↓vsd, vsn, gW, qd, qv, ev, pick, argE, zipE, ne_eq, eq_self, forall_const, implies_true, if_true, if_false, reduceIte, reduceCtorEq, Nat.reduceEqDiff, Nat.reduceAdd, Nat.reduceLT, ↓us_iLeadRows, r_iLeadRows])
  refine m_al ?_
  rintro b1 w1 hb1 hblk1 hx1 hs1
  have h1 : Blk w1 b1 (fM nm st v) 41 := hblk1
  have hno : ¬ LeadOk nm st cs l → ∀ w', ∃ x, Value.tuple ⟨[.slice none 0 0, .bool false]⟩ = .tuple ⟨[x, .bool (decide (LeadOk nm st cs l))]⟩ ∧ Own fS 1 9 w.heap.size w' x (leadV nm st cs l) := fun hn w' =>
    ⟨_, by rw [decide_eq_false hn], by rw [leadV, if_neg hn]; exact Own.nil fS_len⟩
  simp only [↓vsd, vsn, gW, qd, qv, ev, pick, argE, zipE, ne_eq, eq_self, forall_const, implies_true, if_true, if_false, reduceIte, reduceCtorEq, Nat.reduceEqDiff, Nat.reduceAdd, Nat.reduceLT, ↓us_iLeadRows, r_iLeadRows, h1.facts, fMg]
  refine m_call (iGoodMethod_ok nm st v cs hnm hs hl _ (by first | exact h.ext hx1 | exact h.ext (dr hx1))) ?_
  rintro _ w2 hx2 rfl
  have hx2 : Ext w1 w2 := by first | exact hx2 | exact ud hx2 | exact ud (ud hx2)
  have hx12 := hx1.trans hx2
  have h2 := h1.ext hx2
  by_cases hm : IsMethod nm st cs
  · have hD := decide_eq_true hm
    simp only [↓vsd, vsn, gW, qd, qv, ev, pick, argE, zipE, ne_eq, eq_self, forall_const, implies_true, if_true, if_false, reduceIte, reduceCtorEq, Nat.reduceEqDiff, Nat.reduceAdd, Nat.reduceLT, ↓us_iLeadRows, r_iLeadRows, hD, h1.facts, h2.facts, fMg]
    refine m_call (iisRowOf_ok st l _) ?_
    rintro _ w3 hx3 rfl
    have hx3 : Ext w2 w3 := by first | exact hx3 | exact ud hx3 | exact ud (ud hx3)
    have hx13 := hx12.trans hx3
    have h3 := h2.ext hx3
    by_cases hr : (l.length : Int) = st ∧ IsRow l
    · obtain ⟨n, rfl⟩ : ∃ n : Nat, st = n := ⟨st.toNat, by have := hm.2.1; omega⟩
      have hyes : LeadOk nm n cs l := ⟨hm, hr.2, hr.1⟩
      have hd1 := decide_eq_true hr.1
      have hd2 := decide_eq_true hr.2
      simp only [↓vsd, vsn, gW, qd, qv, ev, pick, argE, zipE, ne_eq, eq_self, forall_const, implies_true, if_true, if_false, reduceIte, reduceCtorEq, Nat.reduceEqDiff, Nat.reduceAdd, Nat.reduceLT, ↓us_iLeadRows, r_iLeadRows, hd1, hd2, h2.facts, h3.facts, fMg]
      refine m_call (ileadRows_ok nm n v cs l hm hr.2 _ (by first | exact h.ext hx13 | exact h.ext (dr hx13))) ?_
      rintro x w4 hx4 ho4
      have hx4 : Ext w3 w4 := by first | exact hx4 | exact ud hx4 | exact ud (ud hx4)
      simp only [↓vsd, vsn, gW, qd, qv, ev, pick, argE, zipE, ne_eq, eq_self, forall_const, implies_true, if_true, if_false, reduceIte, reduceCtorEq, Nat.reduceEqDiff, Nat.reduceAdd, Nat.reduceLT, ↓us_iLeadRows, r_iLeadRows]
      refine m_call (xslices_Clone_string_string_ok x _ (by rw [rowsU_len]; omega) _ ho4.sq) ?_
      rintro y w5 hx5 ho5
      have hx5 : Ext w4 w5 := by first | exact hx5 | exact ud hx5 | exact ud (ud hx5)
      have hx14 := hx13.trans hx4
      simp only [↓vsd, vsn, gW, qd, qv, ev, pick, argE, zipE, ne_eq, eq_self, forall_const, implies_true, if_true, if_false, reduceIte, reduceCtorEq, Nat.reduceEqDiff, Nat.reduceAdd, Nat.reduceLT, ↓us_iLeadRows, r_iLeadRows]
      exact ⟨hx14.trans hx5, y, by rw [decide_eq_true hyes], by rw [leadV, if_pos hyes]; exact ho5.mono hx14.size⟩
    · have hn2 : ¬ LeadOk nm st cs l := fun hh => hr ⟨hh.2.2, hh.2.1⟩
      have hd : (decide ((l.length : Int) = st) && decide (IsRow l)) = false := by
        by_cases e : (l.length : Int) = st
        · rw [decide_eq_true e, decide_eq_false (fun hh => hr ⟨e, hh⟩)]; rfl
        · rw [decide_eq_false e]; rfl
      rw [hd]
      simp only [↓vsd, vsn, gW, qd, qv, ev, pick, argE, zipE, ne_eq, eq_self, forall_const, implies_true, if_true, if_false, reduceIte, reduceCtorEq, Nat.reduceEqDiff, Nat.reduceAdd, Nat.reduceLT, ↓us_iLeadRows, r_iLeadRows]
      exact ⟨hx13, hno hn2 _⟩
  · have hn2 : ¬ LeadOk nm st cs l := fun hh => hm hh.1
    have hD := decide_eq_false hm
    simp only [↓vsd, vsn, gW, qd, qv, ev, pick, argE, zipE, ne_eq, eq_self, forall_const, implies_true, if_true, if_false, reduceIte, reduceCtorEq, Nat.reduceEqDiff, Nat.reduceAdd, Nat.reduceLT, ↓us_iLeadRows, r_iLeadRows, hD]
    exact ⟨hx12, hno hn2 _⟩
end Go.Proofs.Ytpnopboffalfnaa
