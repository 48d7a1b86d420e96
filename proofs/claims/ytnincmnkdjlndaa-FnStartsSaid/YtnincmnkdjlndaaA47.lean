/-
  Rows that follow each other, and the rows of a lead as the program gives them.
  Conditions: none.
-/
import Derived.Test.YtnincmnkdjlndaaA46
import Derived.Test.YtnincmnkdjlndaaA22
import Derived.Test.YtnincmnkdjlndaaA27
set_option linter.unusedSimpArgs false
set_option linter.unusedVariables false
set_option linter.defProp false
namespace Go.Proofs.Ytnincmnkdjlndaa
open Go Go.RowKit
section
variable (P : Program) (k : KT) (e : Env) (w : World)
abbrev b203_1 : X := (.cond (.t 11) (.seq (.reg [2, 3] (.c (.q 2 [] (.mv (.c (.slice none 0 0)))) (.c (.q 3 [] (.mv (.c (.bool false)))) .nil))) .ret) .skip)
def t203_1 := b203_1
theorem u203_1 : vcK P t203_1 k e w = vcK P b203_1 k e w := rfl
abbrev b203_2 : X := (.cond (.t 34) (.seq (.reg [2, 3] (.c (.q 2 [] (.mv (.c (.slice none 0 0)))) (.c (.q 3 [] (.mv (.c (.bool false)))) .nil))) .ret) .skip)
def t203_2 := b203_2
theorem u203_2 : vcK P t203_2 k e w = vcK P b203_2 k e w := rfl
abbrev b203_3 : X := (.reg [0, 4, 13, 14, 15] (.c (.q 35 [] (.mv (.t 4))) (.c (.q 36 [] (.mv (.t 7))) (.c (.e (some 37) [] (.bsl 9 1 [(.t 36)])) (.c (.e (some 38) [] (.app 24 9 1 16 [(S [])] 24 (.t 35) (.t 37))) (.c (.q 4 [] (.mv (.t 38))) .nil))))))
def t203_3 := b203_3
theorem u203_3 : vcK P t203_3 k e w = vcK P b203_3 k e w := rfl
abbrev b203_4 : X := (.seq (.seq (.reg [0, 4, 7, 13, 14, 15, 34] (.c (.q 33 [] (.mv (.t 8))) (.c (.q 34 [] (.not (.t 33))) .nil))) t203_2) t203_3)
def t203_4 := b203_4
theorem u203_4 : vcK P t203_4 k e w = vcK P b203_4 k e w := rfl
abbrev b203_5 : X := (.seq (.reg [0, 4, 7, 8, 13, 14, 15] (.c (.q 21 [] (.mv (.t 6))) (.c (.q 22 [] (.mv (.t 0))) (.c (.q 23 [] (.mv (.t 5))) (.c (.q 24 [] (.bin .add (.t 23) (.c (.int .i64 1)))) (.c (.q 25 [] (.mv (.t 0))) (.c (.q 26 [] (.lens (.t 25))) (.c (.q 27 [] (.bin .rem (.t 24) (.t 26))) (.c (.q 28 [] (.ia 1 (.t 22) (.t 27))) (.c (.q 29 [] (.ld (.t 28))) (.c (.e (some 30) [] (.call false 212 [(.t 21), (.t 29)])) (.c (.q 20 [] (.mv (.t 30))) (.c (.q 31 [] (.ext 0 (.t 20))) (.c (.q 32 [] (.ext 1 (.t 20))) (.c (.q 7 [] (.mv (.t 31))) (.c (.q 8 [] (.mv (.t 32))) .nil)))))))))))))))) t203_4)
def t203_5 := b203_5
theorem u203_5 : vcK P t203_5 k e w = vcK P b203_5 k e w := rfl
abbrev b203_6 : X := (.reg [0, 4, 13, 14, 15] (.c (.q 39 [] (.bin .add (.t 15) (.c (.int .i64 1)))) (.c (.q 15 [] (.mv (.t 39))) .nil)))
def t203_6 := b203_6
theorem u203_6 : vcK P t203_6 k e w = vcK P b203_6 k e w := rfl
abbrev b203_7 : X := (.seq (.blk 1 (.seq (.reg [0, 4, 5, 6, 13, 14, 15] (.c (.q 17 [] (.mv (.t 15))) (.c (.q 18 [] (.ia 1 (.t 13) (.t 15))) (.c (.q 19 [] (.ld (.t 18))) (.c (.q 5 [] (.mv (.t 17))) (.c (.q 6 [] (.mv (.t 19))) .nil)))))) t203_5)) t203_6)
def t203_7 := b203_7
theorem u203_7 : vcK P t203_7 k e w = vcK P b203_7 k e w := rfl
abbrev b203_8 : X := (.seq (.cond (.t 16) .skip (.exit 0)) t203_7)
def t203_8 := b203_8
theorem u203_8 : vcK P t203_8 k e w = vcK P b203_8 k e w := rfl
abbrev b203_9 : X := (.seq (.reg [0, 4, 13, 14, 15, 16] (.c (.q 16 [] (.bin .lss (.t 15) (.t 14))) .nil)) t203_8)
def t203_9 := b203_9
theorem u203_9 : vcK P t203_9 k e w = vcK P b203_9 k e w := rfl
abbrev b203_10 : X := (.blk 0 (.loop [4, 15] [0, 13, 14] t203_9))
def t203_10 := b203_10
theorem u203_10 : vcK P t203_10 k e w = vcK P b203_10 k e w := rfl
abbrev b203_11 : X := (.seq (.reg [2, 3] (.c (.q 40 [] (.mv (.t 4))) (.c (.q 2 [] (.mv (.t 40))) (.c (.q 3 [] (.mv (.c (.bool true)))) .nil)))) .ret)
def t203_11 := b203_11
theorem u203_11 : vcK P t203_11 k e w = vcK P b203_11 k e w := rfl
abbrev b203_12 : X := (.seq (.seq (.reg [0, 4, 13, 14, 15] (.c (.q 13 [] (.mv (.t 0))) (.c (.q 14 [] (.lens (.t 13))) (.c (.q 15 [] (.mv (.c (.int .i64 0)))) .nil)))) t203_10) t203_11)
def t203_12 := b203_12
theorem u203_12 : vcK P t203_12 k e w = vcK P b203_12 k e w := rfl
abbrev b203_13 : X := (.seq (.reg [0, 4] (.c (.e (some 12) [] (.bsl 9 1 [])) (.c (.q 4 [] (.mv (.t 12))) .nil))) t203_12)
def t203_13 := b203_13
theorem u203_13 : vcK P t203_13 k e w = vcK P b203_13 k e w := rfl
abbrev b203_14 : X := (.seq (.seq (.reg [0, 11] (.c (.q 9 [] (.mv (.t 0))) (.c (.q 10 [] (.lens (.t 9))) (.c (.q 11 [] (.bin .lss (.t 10) (.c (.int .i64 2)))) .nil)))) t203_1) t203_13)
def t203_14 := b203_14
theorem u203_14 : vcK P t203_14 k e w = vcK P b203_14 k e w := rfl
abbrev b203_0 : X := (.seq (.reg [0] (.c (.q 2 [] (.mv (.c (.slice none 0 0)))) (.c (.q 3 [] (.mv (.c (.bool false)))) .nil))) t203_14)
def x_ichangesIn := b203_0
theorem u203_0 : vcK P x_ichangesIn k e w = vcK P b203_0 k e w := rfl
def r_ichangesIn : List XO := [(.mv (.t 2)), (.mv (.t 3))]
theorem c_ichangesIn : convF Try.prog [147, 148, 152, 160, 162, 163, 170, 178, 206, 208, 210, 224, 233, 235, 236, 251, 264, 265, 268, 270, 287, 322] Try.f203 [([0], []), ([0, 11], []), ([2, 3], []), ([0, 4], []), ([0, 4, 13, 14, 15], []), ([4, 15], [0, 13, 14]), ([0, 4, 13, 14, 15, 16], []), ([0, 4, 5, 6, 13, 14, 15], []), ([0, 4, 7, 8, 13, 14, 15], []), ([0, 4, 7, 13, 14, 15, 34], []), ([2, 3], []), ([0, 4, 13, 14, 15], []), ([0, 4, 13, 14, 15], []), ([2, 3], [])] = some (x_ichangesIn, r_ichangesIn) := by kernel_rfl
def us_ichangesIn :=  (aI (aI (aI @u203_0 (aI @u203_1 @u203_2)) (aI (aI @u203_3 @u203_4) (aI @u203_5 @u203_6))) (aI (aI (aI @u203_7 @u203_8) (aI @u203_9 @u203_10)) (aI (aI @u203_11 @u203_12) (aI @u203_13 @u203_14))))
abbrev b79_1 : X := (.cond (.t 8) (.seq (.reg [2, 3] (.c (.q 2 [] (.mv (.c (.bool false)))) (.c (.q 3 [] (.mv (.c (.bool false)))) .nil))) .ret) .skip)
def t79_1 := b79_1
theorem u79_1 : vcK P t79_1 k e w = vcK P b79_1 k e w := rfl
abbrev b79_2 : X := (.seq (.reg [2, 3] (.c (.q 14 [] (.mv (.t 5))) (.c (.q 2 [] (.mv (.t 14))) (.c (.q 3 [] (.mv (.c (.bool true)))) .nil)))) .ret)
def t79_2 := b79_2
theorem u79_2 : vcK P t79_2 k e w = vcK P b79_2 k e w := rfl
abbrev b79_3 : X := (.seq (.reg [5] (.c (.q 10 [] (.mv (.t 0))) (.c (.e (some 11) [] (.call false 203 [(.t 10)])) (.c (.q 9 [] (.mv (.t 11))) (.c (.q 12 [] (.ext 0 (.t 9))) (.c (.q 13 [] (.ext 1 (.t 9))) (.c (.q 4 [] (.mv (.t 12))) (.c (.q 5 [] (.mv (.t 13))) .nil)))))))) t79_2)
def t79_3 := b79_3
theorem u79_3 : vcK P t79_3 k e w = vcK P b79_3 k e w := rfl
abbrev b79_4 : X := (.seq (.seq (.reg [0, 8] (.c (.q 6 [] (.mv (.t 0))) (.c (.e (some 7) [] (.call false 115 [(.t 6)])) (.c (.q 8 [] (.not (.t 7))) .nil)))) t79_1) t79_3)
def t79_4 := b79_4
theorem u79_4 : vcK P t79_4 k e w = vcK P b79_4 k e w := rfl
abbrev b79_0 : X := (.seq (.reg [0] (.c (.q 2 [] (.mv (.c (.bool false)))) (.c (.q 3 [] (.mv (.c (.bool false)))) .nil))) t79_4)
def x_iAreNext := b79_0
theorem u79_0 : vcK P x_iAreNext k e w = vcK P b79_0 k e w := rfl
def r_iAreNext : List XO := [(.mv (.t 2)), (.mv (.t 3))]
theorem c_iAreNext : convF Try.prog [147, 148, 152, 160, 162, 163, 170, 178, 206, 208, 210, 224, 233, 235, 236, 251, 264, 265, 268, 270, 287, 322] Try.f79 [([0], []), ([0, 8], []), ([2, 3], []), ([5], []), ([2, 3], [])] = some (x_iAreNext, r_iAreNext) := by kernel_rfl
def us_iAreNext :=  (aI (aI @u79_0 @u79_1) (aI @u79_2 (aI @u79_3 @u79_4)))
abbrev b21_1 : X := (.cond (.t 15) (.seq (.reg [4, 5] (.c (.q 4 [] (.mv (.c (.slice none 0 0)))) (.c (.q 5 [] (.mv (.c (.bool false)))) .nil))) .ret) .skip)
def t21_1 := b21_1
theorem u21_1 : vcK P t21_1 k e w = vcK P b21_1 k e w := rfl
abbrev b21_2 : X := (.seq (.reg [4, 5] (.c (.q 16 [] (.lda 3 (.t 2))) (.c (.q 17 [] (.mv (.t 1))) (.c (.e (some 18) [] (.call false 145 [(.t 16), (.t 17)])) (.c (.e (some 19) [] (.call false 144 [(.t 18)])) (.c (.q 4 [] (.mv (.t 19))) (.c (.q 5 [] (.mv (.c (.bool true)))) .nil))))))) .ret)
def t21_2 := b21_2
theorem u21_2 : vcK P t21_2 k e w = vcK P b21_2 k e w := rfl
abbrev b21_3 : X := (.seq (.seq (.reg [1, 2, 15] (.c (.q 6 [] (.lda 3 (.t 2))) (.c (.e (some 7) [] (.call false 135 [(.t 6)])) (.c (.q 8 [] (.not (.t 7))) (.c (.q 9 [] (.mv (.t 8))) (.c (.q 10 [(9, false)] (.fa 1 (.t 2))) (.c (.q 11 [(9, false)] (.ld (.t 10))) (.c (.q 12 [(9, false)] (.mv (.t 1))) (.c (.e (some 13) [(9, false)] (.call false 143 [(.t 11), (.t 12)])) (.c (.q 14 [(9, false)] (.not (.t 13))) (.c (.q 15 [] (.pick (.t 9) (.c (.bool true)) (.t 14))) .nil))))))))))) t21_1) t21_2)
def t21_3 := b21_3
theorem u21_3 : vcK P t21_3 k e w = vcK P b21_3 k e w := rfl
abbrev b21_0 : X := (.seq (.reg [1, 2] (.c (.e (some 2) [] (.box 26 (.t 0))) (.c (.q 4 [] (.mv (.c (.slice none 0 0)))) (.c (.q 5 [] (.mv (.c (.bool false)))) .nil)))) t21_3)
def x_iLeadRows := b21_0
theorem u21_0 : vcK P x_iLeadRows k e w = vcK P b21_0 k e w := rfl
def r_iLeadRows : List XO := [(.mv (.t 4)), (.mv (.t 5))]
theorem c_iLeadRows : convF Try.prog [147, 148, 152, 160, 162, 163, 170, 178, 206, 208, 210, 224, 233, 235, 236, 251, 264, 265, 268, 270, 287, 322] Try.f21 [([1, 2], []), ([1, 2, 15], []), ([4, 5], []), ([4, 5], [])] = some (x_iLeadRows, r_iLeadRows) := by kernel_rfl
def us_iLeadRows :=  (aI (aI @u21_0 @u21_1) (aI @u21_2 @u21_3))
end

/-- Each row leads to the next one, the last to the first, by a change. -/
def NextR (l : List (List UInt8)) : Prop := ∀ i < l.length, ∃ c, IsChange (l.getD i []).length c ∧ l.getD ((i + 1) % l.length) [] = applyL (l.getD i []) c
theorem ichangesIn_ok (v : Value) (l : List (List UInt8)) (hr : ∀ r ∈ l, IsRow r) (h2 : 2 ≤ l.length) (h8 : l.length ≤ 800) (hn : NextR l) (w : World) (h : Sq fS 1 w v l) : Fn 203 [v] w (fun r _ => ∃ x, r = .tuple ⟨[x, .bool true]⟩) := by
  (refine callsV_of mix Try.func203 c_ichangesIn ?_; simp only [↓vsd, vsn, gW, qd, qv, ev, pick, argE, zipE, ne_eq, eq_self, forall_const, implies_true, if_true, if_false, reduceIte, reduceCtorEq, Nat.reduceEqDiff, Nat.reduceAdd, Nat.reduceLT, ↓us_ichangesIn, r_ichangesIn])
  have h2I : ¬ (l.length : Int) < 2 := by omega
  simp only [↓vsd, vsn, gW, qd, qv, ev, pick, argE, zipE, ne_eq, eq_self, forall_const, implies_true, if_true, if_false, reduceIte, reduceCtorEq, Nat.reduceEqDiff, Nat.reduceAdd, Nat.reduceLT, ↓us_ichangesIn, r_ichangesIn, h.facts, h2I]
  try refine ⟨fun hh => by omega, fun _ => ?_⟩
  refine m_bsl (by simp) ?_
  rintro b1 w1 hb1 hblk1 hx1 hs1
  have hq1 := h.ext hx1
  simp only [↓vsd, vsn, gW, qd, qv, ev, pick, argE, zipE, ne_eq, eq_self, forall_const, implies_true, if_true, if_false, reduceIte, reduceCtorEq, Nat.reduceEqDiff, Nat.reduceAdd, Nat.reduceLT, ↓us_ichangesIn, r_ichangesIn, hq1.facts]
  refine m_upto l.length (fun i vs w' => ∃ y L, vs = [y, .int .i64 i] ∧ Own fS 1 9 w.heap.size w' y L ∧ L.length = i ∧ Ext w w') ⟨_, _, rfl, Own.empty fS_len hblk1 (by omega), rfl, hx1⟩ ?_
  rintro i vs w2 hi ⟨y, L, rfl, ho2, hL, hx2⟩
  have hq2 := h.ext hx2
  by_cases hlt : i < l.length
  · have hltI : (i : Int) < l.length := by omega
    have hltJ : ¬ (l.length : Int) ≤ i := by omega
    have hmod : ((i : Int) + 1).tmod (l.length : Int) = (((i + 1) % l.length : Nat) : Int) := (Int.ofNat_tmod (i + 1) l.length).symm
    have hml : (i + 1) % l.length < l.length := Nat.mod_lt _ (by omega)
    obtain ⟨c, hc, hap⟩ := hn i hlt
    have hri := hr _ (getD_mem [] hlt)
    have hrl := hri.1
    simp only [↓vsd, vsn, gW, qd, qv, ev, pick, argE, zipE, ne_eq, eq_self, forall_const, implies_true, if_true, if_false, reduceIte, reduceCtorEq, Nat.reduceEqDiff, Nat.reduceAdd, Nat.reduceLT, ↓us_ichangesIn, r_ichangesIn, hltI, hltJ, hmod, hq2.facts, hq2.at1 [] hlt, hq2.at1 [] hml]
    refine ⟨by omega, inR_i64 (by omega), by omega, ⟨by omega, by omega⟩, m_call (ibetween_ok _ _ hri (by rw [hap, applyL_len]) _) ?_⟩
    rintro re w3 hx3 hre
    rw [hap, btw_chg hri hc] at hre
    simp only [btwV] at hre
    subst hre
    have hx3 : Ext w2 w3 := by first | exact hx3 | exact ud hx3 | exact ud (ud hx3)
    simp only [↓vsd, vsn, gW, qd, qv, ev, pick, argE, zipE, ne_eq, eq_self, forall_const, implies_true, if_true, if_false, reduceIte, reduceCtorEq, Nat.reduceEqDiff, Nat.reduceAdd, Nat.reduceLT, ↓us_ichangesIn, r_ichangesIn]
    refine m_bsl (one_el rfl) ?_
    rintro b4 w4 hb4 hblk4 hx4 hs4
    simp only [↓vsd, vsn, gW, qd, qv, ev, pick, argE, zipE, ne_eq, eq_self, forall_const, implies_true, if_true, if_false, reduceIte, reduceCtorEq, Nat.reduceEqDiff, Nat.reduceAdd, Nat.reduceLT, ↓us_ichangesIn, r_ichangesIn]
    have ho4 := (ho2.ext hx3).ext hx4
    refine m_app ho4 (Sq.one fS_len hblk4 rfl) fS_one (by decide) (by simp; omega) (by decide) ((hx2.trans hx3).trans hx4).size ?_
    rintro y5 w5 ho5 hg5
    simp only [↓vsd, vsn, gW, qd, qv, ev, pick, argE, zipE, ne_eq, eq_self, forall_const, implies_true, if_true, if_false, reduceIte, reduceCtorEq, Nat.reduceEqDiff, Nat.reduceAdd, Nat.reduceLT, ↓us_ichangesIn, r_ichangesIn]
    exact ⟨inR_i64 (by omega), UpTo.next hlt ⟨y5, _, rfl, ho5, by simp [hL], ho4.grown ((hx2.trans hx3).trans hx4) (Nat.le_refl _) hg5⟩⟩
  · obtain rfl : i = l.length := by omega
    have hltI : ¬ (l.length : Int) < l.length := by omega
    simp only [↓vsd, vsn, gW, qd, qv, ev, pick, argE, zipE, ne_eq, eq_self, forall_const, implies_true, if_true, if_false, reduceIte, reduceCtorEq, Nat.reduceEqDiff, Nat.reduceAdd, Nat.reduceLT, ↓us_ichangesIn, r_ichangesIn, hltI]
    exact ⟨hx2, y, rfl⟩
theorem iAreNext_ok (v : Value) (l : List (List UInt8)) (hr : IsRows l) (h2 : 2 ≤ l.length) (hn : NextR l) (w : World) (h : Sq fS 1 w v l) : Fn 79 [v] w (fun r _ => r = .tuple ⟨[.bool true, .bool true]⟩) := by
  (refine callsV_of mix Try.func79 c_iAreNext ?_; simp only [↓vsd, vsn, gW, qd, qv, ev, pick, argE, zipE, ne_eq, eq_self, forall_const, implies_true, if_true, if_false, reduceIte, reduceCtorEq, Nat.reduceEqDiff, Nat.reduceAdd, Nat.reduceLT, ↓us_iAreNext, r_iAreNext])
  have h8 := hr.2
  refine m_call (iGoodRows_ok v l (by omega) _ h) ?_
  rintro _ w1 hx1 rfl
  have hD := decide_eq_true hr
  simp only [↓vsd, vsn, gW, qd, qv, ev, pick, argE, zipE, ne_eq, eq_self, forall_const, implies_true, if_true, if_false, reduceIte, reduceCtorEq, Nat.reduceEqDiff, Nat.reduceAdd, Nat.reduceLT, ↓us_iAreNext, r_iAreNext, hD]
  refine m_call (ichangesIn_ok v l (fun r hm => (hr.1 r hm).1) h2 h8 hn _ (h.ext hx1)) ?_
  rintro _ w2 hx2 ⟨x, rfl⟩
  simp only [↓vsd, vsn, gW, qd, qv, ev, pick, argE, zipE, ne_eq, eq_self, forall_const, implies_true, if_true, if_false, reduceIte, reduceCtorEq, Nat.reduceEqDiff, Nat.reduceAdd, Nat.reduceLT, ↓us_iAreNext, r_iAreNext]
  exact hx1.trans hx2
theorem iLeadRows_ok (nm : List UInt8) (st : Int) (v : Value) (cs : List (List UInt8)) (l : List UInt8) (hnm : nm.length ≤ 1048576) (hs : ∀ c ∈ cs, c.length ≤ 1048576) (hl : cs.length ≤ 1000000000) (w : World) (h : Sq fS 1 w v cs) : Fn 21 [mV nm st v, S l] w (fun r w' => ∃ x, r = .tuple ⟨[x, .bool (decide (LeadOk nm st cs l))]⟩ ∧ Own fS 1 9 w.heap.size w' x (leadV nm st cs l)) := by
  (refine callsV_of mix Try.func21 c_iLeadRows ?_; simp only [↓vsd, vsn, gW, qd, qv, ev, pick, argE, zipE, ne_eq, eq_self, forall_const, implies_true, if_true, if_false, reduceIte, reduceCtorEq, Nat.reduceEqDiff, Nat.reduceAdd, Nat.reduceLT, ↓us_iLeadRows, r_iLeadRows])
  refine m_al ?_
  rintro b1 w1 hb1 hblk1 hx1 hs1
  have h1 : Blk w1 b1 (fM nm st v) 26 := hblk1
  have hno : ¬ LeadOk nm st cs l → ∀ w', ∃ x, Value.tuple ⟨[.slice none 0 0, .bool false]⟩ = .tuple ⟨[x, .bool (decide (LeadOk nm st cs l))]⟩ ∧ Own fS 1 9 w.heap.size w' x (leadV nm st cs l) := fun hn w' =>
    ⟨_, by rw [decide_eq_false hn], by rw [leadV, if_neg hn]; exact Own.nil fS_len⟩
  simp only [↓vsd, vsn, gW, qd, qv, ev, pick, argE, zipE, ne_eq, eq_self, forall_const, implies_true, if_true, if_false, reduceIte, reduceCtorEq, Nat.reduceEqDiff, Nat.reduceAdd, Nat.reduceLT, ↓us_iLeadRows, r_iLeadRows, h1.facts, fMg]
  refine m_call (iGoodMethod_ok nm st v cs hnm hs hl _ (by first | exact h.ext hx1 | exact h.ext (dr hx1))) ?_
  rintro _ w2 hx2 rfl
  have hx2 : Ext w1 w2 := by first | exact hx2 | exact ud hx2 | exact ud (ud hx2)
  have hx12 := hx1.trans hx2
  have h2 := h1.ext hx2
  by_cases hm : IsMethod nm st cs
  · have hD := decide_eq_true hm
    simp only [↓vsd, vsn, gW, qd, qv, ev, pick, argE, zipE, ne_eq, eq_self, forall_const, implies_true, if_true, if_false, reduceIte, reduceCtorEq, Nat.reduceEqDiff, Nat.reduceAdd, Nat.reduceLT, ↓us_iLeadRows, r_iLeadRows, hD, h1.facts, h2.facts, fMg]
    refine m_call (iisRowOf_ok st l _) ?_
    rintro _ w3 hx3 rfl
    have hx3 : Ext w2 w3 := by first | exact hx3 | exact ud hx3 | exact ud (ud hx3)
    have hx13 := hx12.trans hx3
    have h3 := h2.ext hx3
    by_cases hr : (l.length : Int) = st ∧ IsRow l
    · obtain ⟨n, rfl⟩ : ∃ n : Nat, st = n := ⟨st.toNat, by have := hm.2.1; omega⟩
      have hyes : LeadOk nm n cs l := ⟨hm, hr.2, hr.1⟩
      have hd1 := decide_eq_true hr.1
      have hd2 := decide_eq_true hr.2
      simp only [↓vsd, vsn, gW, qd, qv, ev, pick, argE, zipE, ne_eq, eq_self, forall_const, implies_true, if_true, if_false, reduceIte, reduceCtorEq, Nat.reduceEqDiff, Nat.reduceAdd, Nat.reduceLT, ↓us_iLeadRows, r_iLeadRows, hd1, hd2, h2.facts, h3.facts, fMg]
      refine m_call (ileadRows_ok nm n v cs l hm hr.2 _ (by first | exact h.ext hx13 | exact h.ext (dr hx13))) ?_
      rintro x w4 hx4 ho4
      have hx4 : Ext w3 w4 := by first | exact hx4 | exact ud hx4 | exact ud (ud hx4)
      simp only [↓vsd, vsn, gW, qd, qv, ev, pick, argE, zipE, ne_eq, eq_self, forall_const, implies_true, if_true, if_false, reduceIte, reduceCtorEq, Nat.reduceEqDiff, Nat.reduceAdd, Nat.reduceLT, ↓us_iLeadRows, r_iLeadRows]
      refine m_call (xslices_Clone_string_string_ok x _ (by rw [rowsU_len]; omega) _ ho4.sq) ?_
      rintro y w5 hx5 ho5
      have hx5 : Ext w4 w5 := by first | exact hx5 | exact ud hx5 | exact ud (ud hx5)
      have hx14 := hx13.trans hx4
      simp only [↓vsd, vsn, gW, qd, qv, ev, pick, argE, zipE, ne_eq, eq_self, forall_const, implies_true, if_true, if_false, reduceIte, reduceCtorEq, Nat.reduceEqDiff, Nat.reduceAdd, Nat.reduceLT, ↓us_iLeadRows, r_iLeadRows]
      exact ⟨hx14.trans hx5, y, by rw [decide_eq_true hyes], by rw [leadV, if_pos hyes]; exact ho5.mono hx14.size⟩
    · have hn2 : ¬ LeadOk nm st cs l := fun hh => hr ⟨hh.2.2, hh.2.1⟩
      have hd : (decide ((l.length : Int) = st) && decide (IsRow l)) = false := by
        by_cases e : (l.length : Int) = st
        · rw [decide_eq_true e, decide_eq_false (fun hh => hr ⟨e, hh⟩)]; rfl
        · rw [decide_eq_false e]; rfl
      rw [hd]
      simp only [↓vsd, vsn, gW, qd, qv, ev, pick, argE, zipE, ne_eq, eq_self, forall_const, implies_true, if_true, if_false, reduceIte, reduceCtorEq, Nat.reduceEqDiff, Nat.reduceAdd, Nat.reduceLT, ↓us_iLeadRows, r_iLeadRows]
      exact ⟨hx13, hno hn2 _⟩
  · have hn2 : ¬ LeadOk nm st cs l := fun hh => hm hh.1
    have hD := decide_eq_false hm
    simp only [↓vsd, vsn, gW, qd, qv, ev, pick, argE, zipE, ne_eq, eq_self, forall_const, implies_true, if_true, if_false, reduceIte, reduceCtorEq, Nat.reduceEqDiff, Nat.reduceAdd, Nat.reduceLT, ↓us_iLeadRows, r_iLeadRows, hD]
    exact ⟨hx12, hno hn2 _⟩
end Go.Proofs.Ytnincmnkdjlndaa
