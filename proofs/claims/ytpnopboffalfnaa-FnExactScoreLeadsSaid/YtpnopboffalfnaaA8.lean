/-
  The score of rows; the call of the law FnExactScoreRows.
  Conditions: none.
-/
import Derived.Test.YtpnopboffalfnaaA5
import Derived.Test.YtpnopboffalfnaaA7
set_option linter.unusedSimpArgs false
set_option linter.unusedVariables false
set_option linter.defProp false
namespace Go.Proofs.Ytpnopboffalfnaa
open Go Go.RowKit
section
variable (P : Program) (k : KT) (e : Env) (w : World)
abbrev b199_1 : X := (.drw [1, 5, 8, 9, 10] (.c (.q 14 [] (.mv (.t 5))) (.c (.q 15 [] (.fa 1 (.t 7))) (.c (.q 16 [] (.ld (.t 15))) (.c (.q 17 [] (.fa 0 (.t 7))) (.c (.q 18 [] (.ld (.t 17))) (.c (.q 19 [] (.mv (.t 1))) (.c (.e (some 20) [] (.call false 288 [(.t 18), (.t 19)])) (.c (.q 21 [] (.bin .mul (.t 16) (.t 20))) (.c (.q 22 [] (.bin .add (.t 14) (.t 21))) (.c (.q 5 [] (.mv (.t 22))) .nil)))))))))))
def t199_1 := b199_1
theorem u199_1 : vcK P t199_1 k e w = vcK P b199_1 k e w := rfl
abbrev b199_2 : X := (.reg [1, 5, 8, 9, 10] (.c (.q 23 [] (.bin .add (.t 10) (.c (.int .i64 1)))) (.c (.q 10 [] (.mv (.t 23))) .nil)))
def t199_2 := b199_2
theorem u199_2 : vcK P t199_2 k e w = vcK P b199_2 k e w := rfl
abbrev b199_3 : X := (.seq (.blk 1 (.seq (.reg [1, 5, 7, 8, 9, 10] (.c (.q 12 [] (.ia 2 (.t 8) (.t 10))) (.c (.q 13 [] (.lda 2 (.t 12))) (.c (.e (some 7) [] (.al 151 [(S []), (.int .i64 0)])) (.c (.e none [] (.st 2 (.t 7) (.t 13))) .nil))))) t199_1)) t199_2)
def t199_3 := b199_3
theorem u199_3 : vcK P t199_3 k e w = vcK P b199_3 k e w := rfl
abbrev b199_4 : X := (.seq (.cond (.t 11) .skip (.exit 0)) t199_3)
def t199_4 := b199_4
theorem u199_4 : vcK P t199_4 k e w = vcK P b199_4 k e w := rfl
abbrev b199_5 : X := (.seq (.reg [1, 5, 8, 9, 10, 11] (.c (.q 11 [] (.bin .lss (.t 10) (.t 9))) .nil)) t199_4)
def t199_5 := b199_5
theorem u199_5 : vcK P t199_5 k e w = vcK P b199_5 k e w := rfl
abbrev b199_6 : X := (.blk 0 (.loop [5, 10] [1, 8, 9] t199_5))
def t199_6 := b199_6
theorem u199_6 : vcK P t199_6 k e w = vcK P b199_6 k e w := rfl
abbrev b199_7 : X := (.seq (.reg [4] (.c (.q 24 [] (.mv (.t 5))) (.c (.q 4 [] (.mv (.t 24))) .nil))) .ret)
def t199_7 := b199_7
theorem u199_7 : vcK P t199_7 k e w = vcK P b199_7 k e w := rfl
abbrev b199_8 : X := (.seq (.seq (.reg [1, 5, 8, 9, 10] (.c (.q 8 [] (.mv (.t 0))) (.c (.q 9 [] (.lens (.t 8))) (.c (.q 10 [] (.mv (.c (.int .i64 0)))) .nil)))) t199_6) t199_7)
def t199_8 := b199_8
theorem u199_8 : vcK P t199_8 k e w = vcK P b199_8 k e w := rfl
abbrev b199_9 : X := (.seq (.reg [0, 1, 5] (.c (.q 5 [] (.mv (.c (.int .i64 0)))) .nil)) t199_8)
def t199_9 := b199_9
theorem u199_9 : vcK P t199_9 k e w = vcK P b199_9 k e w := rfl
abbrev b199_0 : X := (.seq (.reg [0, 1] (.c (.q 4 [] (.mv (.c (.int .i64 0)))) .nil)) t199_9)
def x_iscoreOf := b199_0
theorem u199_0 : vcK P x_iscoreOf k e w = vcK P b199_0 k e w := rfl
def r_iscoreOf : List XO := [(.mv (.t 4))]
theorem c_iscoreOf : convF Try.prog [169, 170, 207, 208, 210, 227, 232, 233, 255, 259, 268, 269, 270, 280, 281, 296, 299, 306, 307, 309] Try.f199 [([0, 1], []), ([0, 1, 5], []), ([1, 5, 8, 9, 10], []), ([5, 10], [1, 8, 9]), ([1, 5, 8, 9, 10, 11], []), ([1, 5, 7, 8, 9, 10], []), ([1, 5, 8, 9, 10], []), ([1, 5, 8, 9, 10], []), ([4], [])] = some (x_iscoreOf, r_iscoreOf) := by kernel_rfl
def us_iscoreOf := aI @u199_0 (aI @u199_1 (aI @u199_2 (aI @u199_3 (aI @u199_4 (aI @u199_5 (aI @u199_6 (aI @u199_7 (aI @u199_8 @u199_9))))))))
abbrev b194_1 : X := (.drw [1, 5, 8, 9, 10] (.c (.q 14 [] (.mv (.t 5))) (.c (.q 15 [] (.fa 1 (.t 7))) (.c (.q 16 [] (.ld (.t 15))) (.c (.q 17 [] (.fa 0 (.t 7))) (.c (.q 18 [] (.ld (.t 17))) (.c (.q 19 [] (.mv (.t 1))) (.c (.e (some 20) [] (.call false 287 [(.t 18), (.t 19)])) (.c (.q 21 [] (.bin .mul (.t 16) (.t 20))) (.c (.q 22 [] (.bin .add (.t 14) (.t 21))) (.c (.q 5 [] (.mv (.t 22))) .nil)))))))))))
def t194_1 := b194_1
theorem u194_1 : vcK P t194_1 k e w = vcK P b194_1 k e w := rfl
abbrev b194_2 : X := (.reg [1, 5, 8, 9, 10] (.c (.q 23 [] (.bin .add (.t 10) (.c (.int .i64 1)))) (.c (.q 10 [] (.mv (.t 23))) .nil)))
def t194_2 := b194_2
theorem u194_2 : vcK P t194_2 k e w = vcK P b194_2 k e w := rfl
abbrev b194_3 : X := (.seq (.blk 1 (.seq (.reg [1, 5, 7, 8, 9, 10] (.c (.q 12 [] (.ia 2 (.t 8) (.t 10))) (.c (.q 13 [] (.lda 2 (.t 12))) (.c (.e (some 7) [] (.al 151 [(S []), (.int .i64 0)])) (.c (.e none [] (.st 2 (.t 7) (.t 13))) .nil))))) t194_1)) t194_2)
def t194_3 := b194_3
theorem u194_3 : vcK P t194_3 k e w = vcK P b194_3 k e w := rfl
abbrev b194_4 : X := (.seq (.cond (.t 11) .skip (.exit 0)) t194_3)
def t194_4 := b194_4
theorem u194_4 : vcK P t194_4 k e w = vcK P b194_4 k e w := rfl
abbrev b194_5 : X := (.seq (.reg [1, 5, 8, 9, 10, 11] (.c (.q 11 [] (.bin .lss (.t 10) (.t 9))) .nil)) t194_4)
def t194_5 := b194_5
theorem u194_5 : vcK P t194_5 k e w = vcK P b194_5 k e w := rfl
abbrev b194_6 : X := (.blk 0 (.loop [5, 10] [1, 8, 9] t194_5))
def t194_6 := b194_6
theorem u194_6 : vcK P t194_6 k e w = vcK P b194_6 k e w := rfl
abbrev b194_7 : X := (.seq (.reg [4] (.c (.q 24 [] (.mv (.t 5))) (.c (.q 4 [] (.mv (.t 24))) .nil))) .ret)
def t194_7 := b194_7
theorem u194_7 : vcK P t194_7 k e w = vcK P b194_7 k e w := rfl
abbrev b194_8 : X := (.seq (.seq (.reg [1, 5, 8, 9, 10] (.c (.q 8 [] (.mv (.t 0))) (.c (.q 9 [] (.lens (.t 8))) (.c (.q 10 [] (.mv (.c (.int .i64 0)))) .nil)))) t194_6) t194_7)
def t194_8 := b194_8
theorem u194_8 : vcK P t194_8 k e w = vcK P b194_8 k e w := rfl
abbrev b194_9 : X := (.seq (.reg [0, 1, 5] (.c (.q 5 [] (.mv (.c (.int .i64 0)))) .nil)) t194_8)
def t194_9 := b194_9
theorem u194_9 : vcK P t194_9 k e w = vcK P b194_9 k e w := rfl
abbrev b194_0 : X := (.seq (.reg [0, 1] (.c (.q 4 [] (.mv (.c (.int .i64 0)))) .nil)) t194_9)
def x_sl16Score := b194_0
theorem u194_0 : vcK P x_sl16Score k e w = vcK P b194_0 k e w := rfl
def r_sl16Score : List XO := [(.mv (.t 4))]
theorem c_sl16Score : convF Try.prog [169, 170, 207, 208, 210, 227, 232, 233, 255, 259, 268, 269, 270, 280, 281, 296, 299, 306, 307, 309] Try.f194 [([0, 1], []), ([0, 1, 5], []), ([1, 5, 8, 9, 10], []), ([5, 10], [1, 8, 9]), ([1, 5, 8, 9, 10, 11], []), ([1, 5, 7, 8, 9, 10], []), ([1, 5, 8, 9, 10], []), ([1, 5, 8, 9, 10], []), ([4], [])] = some (x_sl16Score, r_sl16Score) := by kernel_rfl
def us_sl16Score := aI @u194_0 (aI @u194_1 (aI @u194_2 (aI @u194_3 (aI @u194_4 (aI @u194_5 (aI @u194_6 (aI @u194_7 (aI @u194_8 @u194_9))))))))
abbrev b149_1 : X := (.cond (.t 13) (.seq (.reg [4, 5] (.c (.q 4 [] (.mv (.c (.int .i64 0)))) (.c (.q 5 [] (.mv (.c (.bool false)))) .nil))) .ret) .skip)
def t149_1 := b149_1
theorem u149_1 : vcK P t149_1 k e w = vcK P b149_1 k e w := rfl
abbrev b149_2 : X := (.seq (.reg [4, 5] (.c (.q 14 [] (.mv (.t 0))) (.c (.q 15 [] (.mv (.t 1))) (.c (.e (some 16) [] (.call false 199 [(.t 14), (.t 15)])) (.c (.q 4 [] (.mv (.t 16))) (.c (.q 5 [] (.mv (.c (.bool true)))) .nil)))))) .ret)
def t149_2 := b149_2
theorem u149_2 : vcK P t149_2 k e w = vcK P b149_2 k e w := rfl
abbrev b149_3 : X := (.seq (.seq (.reg [0, 1, 13] (.c (.q 6 [] (.mv (.t 0))) (.c (.e (some 7) [] (.call false 151 [(.t 6)])) (.c (.q 8 [] (.not (.t 7))) (.c (.q 9 [] (.mv (.t 8))) (.c (.q 10 [(9, false)] (.mv (.t 1))) (.c (.e (some 11) [(9, false)] (.call false 242 [(.t 10)])) (.c (.q 12 [(9, false)] (.not (.t 11))) (.c (.q 13 [] (.pick (.t 9) (.c (.bool true)) (.t 12))) .nil))))))))) t149_1) t149_2)
def t149_3 := b149_3
theorem u149_3 : vcK P t149_3 k e w = vcK P b149_3 k e w := rfl
abbrev b149_0 : X := (.seq (.reg [0, 1] (.c (.q 4 [] (.mv (.c (.int .i64 0)))) (.c (.q 5 [] (.mv (.c (.bool false)))) .nil))) t149_3)
def x_iScoreRows := b149_0
theorem u149_0 : vcK P x_iScoreRows k e w = vcK P b149_0 k e w := rfl
def r_iScoreRows : List XO := [(.mv (.t 4)), (.mv (.t 5))]
theorem c_iScoreRows : convF Try.prog [169, 170, 207, 208, 210, 227, 232, 233, 255, 259, 268, 269, 270, 280, 281, 296, 299, 306, 307, 309] Try.f149 [([0, 1], []), ([0, 1, 13], []), ([4, 5], []), ([4, 5], [])] = some (x_iScoreRows, r_iScoreRows) := by kernel_rfl
def us_iScoreRows := aI @u149_0 (aI @u149_1 (aI @u149_2 @u149_3))
abbrev b150_1 : X := (.cond (.t 13) (.seq (.reg [4, 5] (.c (.q 4 [] (.mv (.c (.int .i64 0)))) (.c (.q 5 [] (.mv (.c (.bool false)))) .nil))) .ret) .skip)
def t150_1 := b150_1
theorem u150_1 : vcK P t150_1 k e w = vcK P b150_1 k e w := rfl
abbrev b150_2 : X := (.seq (.reg [4, 5] (.c (.q 14 [] (.mv (.t 0))) (.c (.q 15 [] (.mv (.t 1))) (.c (.e (some 16) [] (.call false 194 [(.t 14), (.t 15)])) (.c (.q 4 [] (.mv (.t 16))) (.c (.q 5 [] (.mv (.c (.bool true)))) .nil)))))) .ret)
def t150_2 := b150_2
theorem u150_2 : vcK P t150_2 k e w = vcK P b150_2 k e w := rfl
abbrev b150_3 : X := (.seq (.seq (.reg [0, 1, 13] (.c (.q 6 [] (.mv (.t 0))) (.c (.e (some 7) [] (.call false 192 [(.t 6)])) (.c (.q 8 [] (.not (.t 7))) (.c (.q 9 [] (.mv (.t 8))) (.c (.q 10 [(9, false)] (.mv (.t 1))) (.c (.e (some 11) [(9, false)] (.call false 271 [(.t 10)])) (.c (.q 12 [(9, false)] (.not (.t 11))) (.c (.q 13 [] (.pick (.t 9) (.c (.bool true)) (.t 12))) .nil))))))))) t150_1) t150_2)
def t150_3 := b150_3
theorem u150_3 : vcK P t150_3 k e w = vcK P b150_3 k e w := rfl
abbrev b150_0 : X := (.seq (.reg [0, 1] (.c (.q 4 [] (.mv (.c (.int .i64 0)))) (.c (.q 5 [] (.mv (.c (.bool false)))) .nil))) t150_3)
def x_sScoreRows := b150_0
theorem u150_0 : vcK P x_sScoreRows k e w = vcK P b150_0 k e w := rfl
def r_sScoreRows : List XO := [(.mv (.t 4)), (.mv (.t 5))]
theorem c_sScoreRows : convF Try.prog [169, 170, 207, 208, 210, 227, 232, 233, 255, 259, 268, 269, 270, 280, 281, 296, 299, 306, 307, 309] Try.f150 [([0, 1], []), ([0, 1, 13], []), ([4, 5], []), ([4, 5], [])] = some (x_sScoreRows, r_sScoreRows) := by kernel_rfl
def us_sScoreRows := aI @u150_0 (aI @u150_1 (aI @u150_2 @u150_3))
end

/-- The score. -/
def scoreL (ks : List LK) (l : List (List UInt8)) : Int := (ks.map fun x => x.wt * (countL x.pat l : Int)).sum
theorem scoreL_succ (ks : List LK) (l : List (List UInt8)) (k : Nat) (h : k < ks.length) : scoreL (ks.take (k + 1)) l = scoreL (ks.take k) l + (ks.getD k ⟨[], 0⟩).wt * (countL (ks.getD k ⟨[], 0⟩).pat l : Int) := by
  unfold scoreL
  rw [List.take_add_one, List.getElem?_eq_getElem h, List.map_append, List.sum_append, List.getD_eq_getElem?_getD, List.getElem?_eq_getElem h]
  simp
theorem prod_le (a c : Int) (ha : -100 ≤ a ∧ a ≤ 100) (hc : 0 ≤ c ∧ c ≤ 800) : -80000 ≤ a * c ∧ a * c ≤ 80000 := by
  constructor
  · have h1 := Int.mul_le_mul_of_nonneg_right ha.1 hc.1
    omega
  · have h1 := Int.mul_le_mul_of_nonneg_right ha.2 hc.1
    omega
theorem iscoreOf_ok (v u : Value) (ks : List LK) (l : List (List UInt8)) (hk : GoodKs ks) (hl : l.length ≤ 800) (w : World) (h : Sq fK 2 w v ks) (h' : Sq fS 1 w u l) : Fn 199 [v, u] w (fun r _ => r = .int .i64 (scoreL ks l)) := by
  (refine callsV_of mix Try.func199 c_iscoreOf ?_; simp only [↓vsd, vsn, gW, qd, qv, ev, pick, argE, zipE, ne_eq, eq_self, forall_const, implies_true, if_true, if_false, reduceIte, reduceCtorEq, Nat.reduceEqDiff, Nat.reduceAdd, Nat.reduceLT, ↓us_iscoreOf, r_iscoreOf])
  simp only [↓vsd, vsn, gW, qd, qv, ev, pick, argE, zipE, ne_eq, eq_self, forall_const, implies_true, if_true, if_false, reduceIte, reduceCtorEq, Nat.reduceEqDiff, Nat.reduceAdd, Nat.reduceLT, ↓us_iscoreOf, r_iscoreOf, h.facts]
  refine m_upto ks.length (fun k vs w' => vs = [.int .i64 (scoreL (ks.take k) l), .int .i64 k] ∧ -80000 * (k : Int) ≤ scoreL (ks.take k) l ∧ scoreL (ks.take k) l ≤ 80000 * (k : Int) ∧ Ext w w') ⟨rfl, by simp [scoreL], by simp [scoreL], Ext.refl _⟩ ?_
  rintro k vs w1 hkk ⟨rfl, hlo, hhi, hx⟩
  have hq := h.ext hx
  have hlen := hk.2
  by_cases hlt : k < ks.length
  · have hltI : (k : Int) < ks.length := by omega
    have hltJ : ¬ (ks.length : Int) ≤ k := by omega
    have hs := scoreL_succ ks l k hlt
    have hw := (hk.1 _ (getD_mem ⟨[], 0⟩ hlt)).2
    have hc := countL_le (ks.getD k ⟨[], 0⟩).pat l
    have hpr := prod_le _ (countL (ks.getD k ⟨[], 0⟩).pat l) hw (by omega)
    simp only [↓vsd, vsn, gW, qd, qv, ev, pick, argE, zipE, ne_eq, eq_self, forall_const, implies_true, if_true, if_false, reduceIte, reduceCtorEq, Nat.reduceEqDiff, Nat.reduceAdd, Nat.reduceLT, ↓us_iscoreOf, r_iscoreOf, hq.facts, hq.ata ⟨[], 0⟩ hlt, hltI, hltJ]
    refine ⟨by omega, m_al ?_⟩
    rintro b w2 hb hblk hx2 hs2
    simp only [↓vsd, vsn, gW, qd, qv, ev, pick, argE, zipE, ne_eq, eq_self, forall_const, implies_true, if_true, if_false, reduceIte, reduceCtorEq, Nat.reduceEqDiff, Nat.reduceAdd, Nat.reduceLT, ↓us_iscoreOf, r_iscoreOf]
    refine m_st hblk rfl (Nat.le_refl 2) (fK_one _) ?_
    rintro w3 hblk3 hu3
    have h3 : Blk w3 b (fK (ks.getD k ⟨[], 0⟩)) 151 := hblk3
    have hx3 : Ext w w3 := hu3.below (hx.trans hx2) (by have := hx.size; omega)
    simp only [↓vsd, vsn, gW, qd, qv, ev, pick, argE, zipE, ne_eq, eq_self, forall_const, implies_true, if_true, if_false, reduceIte, reduceCtorEq, Nat.reduceEqDiff, Nat.reduceAdd, Nat.reduceLT, ↓us_iscoreOf, r_iscoreOf, h3.facts, fKg]
    refine m_call (icountFits_ok _ u l (by omega) _ (h'.ext (dr hx3))) ?_
    rintro _ w4 hx4 rfl
    have hx4 := ud hx4
    have h4 := h3.ext hx4
    simp only [↓vsd, vsn, gW, qd, qv, ev, pick, argE, zipE, ne_eq, eq_self, forall_const, implies_true, if_true, if_false, reduceIte, reduceCtorEq, Nat.reduceEqDiff, Nat.reduceAdd, Nat.reduceLT, ↓us_iscoreOf, r_iscoreOf, h4.facts, fKg]
    exact ⟨inR_i64 (by omega), inR_i64 (by omega), inR_i64 (by omega), UpTo.next hlt ⟨by rw [hs]; rfl, by rw [hs]; omega, by rw [hs]; omega, hx3.trans hx4⟩⟩
  · obtain rfl : k = ks.length := by omega
    have hltI : ¬ (ks.length : Int) < ks.length := by omega
    simp only [↓vsd, vsn, gW, qd, qv, ev, pick, argE, zipE, ne_eq, eq_self, forall_const, implies_true, if_true, if_false, reduceIte, reduceCtorEq, Nat.reduceEqDiff, Nat.reduceAdd, Nat.reduceLT, ↓us_iscoreOf, r_iscoreOf, hq.facts, hltI]
    exact ⟨hx, by rw [List.take_length]⟩
theorem sl16Score_ok (v u : Value) (ks : List LK) (l : List (List UInt8)) (hk : GoodKs ks) (hl : l.length ≤ 800) (w : World) (h : Sq fK 2 w v ks) (h' : Sq fS 1 w u l) : Fn 194 [v, u] w (fun r _ => r = .int .i64 (scoreL ks l)) := by
  (refine callsV_of mix Try.func194 c_sl16Score ?_; simp only [↓vsd, vsn, gW, qd, qv, ev, pick, argE, zipE, ne_eq, eq_self, forall_const, implies_true, if_true, if_false, reduceIte, reduceCtorEq, Nat.reduceEqDiff, Nat.reduceAdd, Nat.reduceLT, ↓us_sl16Score, r_sl16Score])
  simp only [↓vsd, vsn, gW, qd, qv, ev, pick, argE, zipE, ne_eq, eq_self, forall_const, implies_true, if_true, if_false, reduceIte, reduceCtorEq, Nat.reduceEqDiff, Nat.reduceAdd, Nat.reduceLT, ↓us_sl16Score, r_sl16Score, h.facts]
  refine m_upto ks.length (fun k vs w' => vs = [.int .i64 (scoreL (ks.take k) l), .int .i64 k] ∧ -80000 * (k : Int) ≤ scoreL (ks.take k) l ∧ scoreL (ks.take k) l ≤ 80000 * (k : Int) ∧ Ext w w') ⟨rfl, by simp [scoreL], by simp [scoreL], Ext.refl _⟩ ?_
  rintro k vs w1 hkk ⟨rfl, hlo, hhi, hx⟩
  have hq := h.ext hx
  have hlen := hk.2
  by_cases hlt : k < ks.length
  · have hltI : (k : Int) < ks.length := by omega
    have hltJ : ¬ (ks.length : Int) ≤ k := by omega
    have hs := scoreL_succ ks l k hlt
    have hw := (hk.1 _ (getD_mem ⟨[], 0⟩ hlt)).2
    have hc := countL_le (ks.getD k ⟨[], 0⟩).pat l
    have hpr := prod_le _ (countL (ks.getD k ⟨[], 0⟩).pat l) hw (by omega)
    simp only [↓vsd, vsn, gW, qd, qv, ev, pick, argE, zipE, ne_eq, eq_self, forall_const, implies_true, if_true, if_false, reduceIte, reduceCtorEq, Nat.reduceEqDiff, Nat.reduceAdd, Nat.reduceLT, ↓us_sl16Score, r_sl16Score, hq.facts, hq.ata ⟨[], 0⟩ hlt, hltI, hltJ]
    refine ⟨by omega, m_al ?_⟩
    rintro b w2 hb hblk hx2 hs2
    simp only [↓vsd, vsn, gW, qd, qv, ev, pick, argE, zipE, ne_eq, eq_self, forall_const, implies_true, if_true, if_false, reduceIte, reduceCtorEq, Nat.reduceEqDiff, Nat.reduceAdd, Nat.reduceLT, ↓us_sl16Score, r_sl16Score]
    refine m_st hblk rfl (Nat.le_refl 2) (fK_one _) ?_
    rintro w3 hblk3 hu3
    have h3 : Blk w3 b (fK (ks.getD k ⟨[], 0⟩)) 151 := hblk3
    have hx3 : Ext w w3 := hu3.below (hx.trans hx2) (by have := hx.size; omega)
    simp only [↓vsd, vsn, gW, qd, qv, ev, pick, argE, zipE, ne_eq, eq_self, forall_const, implies_true, if_true, if_false, reduceIte, reduceCtorEq, Nat.reduceEqDiff, Nat.reduceAdd, Nat.reduceLT, ↓us_sl16Score, r_sl16Score, h3.facts, fKg]
    refine m_call (sl16Count_ok _ u l (by omega) _ (h'.ext (dr hx3))) ?_
    rintro _ w4 hx4 rfl
    have hx4 := ud hx4
    have h4 := h3.ext hx4
    simp only [↓vsd, vsn, gW, qd, qv, ev, pick, argE, zipE, ne_eq, eq_self, forall_const, implies_true, if_true, if_false, reduceIte, reduceCtorEq, Nat.reduceEqDiff, Nat.reduceAdd, Nat.reduceLT, ↓us_sl16Score, r_sl16Score, h4.facts, fKg]
    exact ⟨inR_i64 (by omega), inR_i64 (by omega), inR_i64 (by omega), UpTo.next hlt ⟨by rw [hs]; rfl, by rw [hs]; omega, by rw [hs]; omega, hx3.trans hx4⟩⟩
  · obtain rfl : k = ks.length := by omega
    have hltI : ¬ (ks.length : Int) < ks.length := by omega
    simp only [↓vsd, vsn, gW, qd, qv, ev, pick, argE, zipE, ne_eq, eq_self, forall_const, implies_true, if_true, if_false, reduceIte, reduceCtorEq, Nat.reduceEqDiff, Nat.reduceAdd, Nat.reduceLT, ↓us_sl16Score, r_sl16Score, hq.facts, hltI]
    exact ⟨hx, by rw [List.take_length]⟩
def scoreV (ks : List LK) (l : List (List UInt8)) : Value := if GoodKs ks ∧ IsRows l then .tuple ⟨[.int .i64 (scoreL ks l), .bool true]⟩ else .tuple ⟨[.int .i64 0, .bool false]⟩
theorem iScoreRows_ok (v u : Value) (ks : List LK) (l : List (List UInt8)) (hs : ∀ x ∈ ks, x.pat.length ≤ 1048576) (hks : ks.length ≤ 1048576) (hl : l.length ≤ 1000000000) (w : World) (h : Sq fK 2 w v ks) (h' : Sq fS 1 w u l) : Fn 149 [v, u] w (fun r _ => r = scoreV ks l) := by
  (refine callsV_of mix Try.func149 c_iScoreRows ?_; simp only [↓vsd, vsn, gW, qd, qv, ev, pick, argE, zipE, ne_eq, eq_self, forall_const, implies_true, if_true, if_false, reduceIte, reduceCtorEq, Nat.reduceEqDiff, Nat.reduceAdd, Nat.reduceLT, ↓us_iScoreRows, r_iScoreRows])
  refine m_call (iGoodLiked_ok v ks hs hks _ h) ?_
  rintro _ w1 hx1 rfl
  simp only [↓vsd, vsn, gW, qd, qv, ev, pick, argE, zipE, ne_eq, eq_self, forall_const, implies_true, if_true, if_false, reduceIte, reduceCtorEq, Nat.reduceEqDiff, Nat.reduceAdd, Nat.reduceLT, ↓us_iScoreRows, r_iScoreRows]
  refine ⟨fun h1 => m_call (iGoodRows_ok u l hl _ (h'.ext hx1)) ?_, fun h1 => ⟨hx1, by simp [scoreV, h1]⟩⟩
  rintro _ w2 hx2 rfl
  simp only [↓vsd, vsn, gW, qd, qv, ev, pick, argE, zipE, ne_eq, eq_self, forall_const, implies_true, if_true, if_false, reduceIte, reduceCtorEq, Nat.reduceEqDiff, Nat.reduceAdd, Nat.reduceLT, ↓us_iScoreRows, r_iScoreRows]
  refine ⟨fun h2 => ⟨hx1.trans hx2, ?_⟩, fun h2 => m_call (iscoreOf_ok v u ks l h1 h2.2.2 _ (h.ext (hx1.trans hx2)) (h'.ext (hx1.trans hx2))) ?_⟩
  · rw [scoreV, if_neg (by simpa [h1] using h2)]
  rintro _ w3 hx3 rfl
  simp only [↓vsd, vsn, gW, qd, qv, ev, pick, argE, zipE, ne_eq, eq_self, forall_const, implies_true, if_true, if_false, reduceIte, reduceCtorEq, Nat.reduceEqDiff, Nat.reduceAdd, Nat.reduceLT, ↓us_iScoreRows, r_iScoreRows]
  exact ⟨(hx1.trans hx2).trans hx3, by rw [scoreV, if_pos (by simpa using h2)]⟩
theorem sScoreRows_ok (v u : Value) (ks : List LK) (l : List (List UInt8)) (hs : ∀ x ∈ ks, x.pat.length ≤ 1048576) (hks : ks.length ≤ 1048576) (hl : l.length ≤ 1000000000) (w : World) (h : Sq fK 2 w v ks) (h' : Sq fS 1 w u l) : Fn 150 [v, u] w (fun r _ => r = scoreV ks l) := by
  (refine callsV_of mix Try.func150 c_sScoreRows ?_; simp only [↓vsd, vsn, gW, qd, qv, ev, pick, argE, zipE, ne_eq, eq_self, forall_const, implies_true, if_true, if_false, reduceIte, reduceCtorEq, Nat.reduceEqDiff, Nat.reduceAdd, Nat.reduceLT, ↓us_sScoreRows, r_sScoreRows])
  refine m_call (sl16Liked_ok v ks hs hks _ h) ?_
  rintro _ w1 hx1 rfl
  simp only [↓vsd, vsn, gW, qd, qv, ev, pick, argE, zipE, ne_eq, eq_self, forall_const, implies_true, if_true, if_false, reduceIte, reduceCtorEq, Nat.reduceEqDiff, Nat.reduceAdd, Nat.reduceLT, ↓us_sScoreRows, r_sScoreRows]
  refine ⟨fun h1 => m_call (sl6Rows_ok u l hl _ (h'.ext hx1)) ?_, fun h1 => ⟨hx1, by simp [scoreV, h1]⟩⟩
  rintro _ w2 hx2 rfl
  simp only [↓vsd, vsn, gW, qd, qv, ev, pick, argE, zipE, ne_eq, eq_self, forall_const, implies_true, if_true, if_false, reduceIte, reduceCtorEq, Nat.reduceEqDiff, Nat.reduceAdd, Nat.reduceLT, ↓us_sScoreRows, r_sScoreRows]
  refine ⟨fun h2 => ⟨hx1.trans hx2, ?_⟩, fun h2 => m_call (sl16Score_ok v u ks l h1 h2.2.2 _ (h.ext (hx1.trans hx2)) (h'.ext (hx1.trans hx2))) ?_⟩
  · rw [scoreV, if_neg (by simpa [h1] using h2)]
  rintro _ w3 hx3 rfl
  simp only [↓vsd, vsn, gW, qd, qv, ev, pick, argE, zipE, ne_eq, eq_self, forall_const, implies_true, if_true, if_false, reduceIte, reduceCtorEq, Nat.reduceEqDiff, Nat.reduceAdd, Nat.reduceLT, ↓us_sScoreRows, r_sScoreRows]
  exact ⟨(hx1.trans hx2).trans hx3, by rw [scoreV, if_pos (by simpa using h2)]⟩
end Go.Proofs.Ytpnopboffalfnaa
