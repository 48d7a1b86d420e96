/-
  Counting the rows that fit a pattern; the call of the law FnExactCountFits.
  Conditions: none.
-/
import Derived.Test.YtpnopboffalfnaaA3
import Derived.Test.YtpnopboffalfnaaA6
set_option linter.unusedSimpArgs false
set_option linter.unusedVariables false
set_option linter.defProp false
namespace Go.Proofs.Ytpnopboffalfnaa
open Go Go.RowKit
section
variable (P : Program) (k : KT) (e : Env) (w : World)
abbrev b288_1 : X := (.cond (.t 16) (.reg [0, 5, 8, 9, 10] (.c (.q 17 [] (.mv (.t 5))) (.c (.q 18 [] (.bin .add (.t 17) (.c (.int .i64 1)))) (.c (.q 5 [] (.mv (.t 18))) .nil)))) .skip)
def t288_1 := b288_1
theorem u288_1 : vcK P t288_1 k e w = vcK P b288_1 k e w := rfl
abbrev b288_2 : X := (.seq (.reg [0, 5, 8, 9, 10, 16] (.c (.q 14 [] (.mv (.t 0))) (.c (.q 15 [] (.mv (.t 7))) (.c (.e (some 16) [] (.call false 315 [(.t 14), (.t 15)])) .nil)))) t288_1)
def t288_2 := b288_2
theorem u288_2 : vcK P t288_2 k e w = vcK P b288_2 k e w := rfl
abbrev b288_3 : X := (.reg [0, 5, 8, 9, 10] (.c (.q 19 [] (.bin .add (.t 10) (.c (.int .i64 1)))) (.c (.q 10 [] (.mv (.t 19))) .nil)))
def t288_3 := b288_3
theorem u288_3 : vcK P t288_3 k e w = vcK P b288_3 k e w := rfl
abbrev b288_4 : X := (.seq (.blk 1 (.seq (.reg [0, 5, 7, 8, 9, 10] (.c (.q 12 [] (.ia 1 (.t 8) (.t 10))) (.c (.q 13 [] (.ld (.t 12))) (.c (.q 7 [] (.mv (.t 13))) .nil)))) t288_2)) t288_3)
def t288_4 := b288_4
theorem u288_4 : vcK P t288_4 k e w = vcK P b288_4 k e w := rfl
abbrev b288_5 : X := (.seq (.cond (.t 11) .skip (.exit 0)) t288_4)
def t288_5 := b288_5
theorem u288_5 : vcK P t288_5 k e w = vcK P b288_5 k e w := rfl
abbrev b288_6 : X := (.seq (.reg [0, 5, 8, 9, 10, 11] (.c (.q 11 [] (.bin .lss (.t 10) (.t 9))) .nil)) t288_5)
def t288_6 := b288_6
theorem u288_6 : vcK P t288_6 k e w = vcK P b288_6 k e w := rfl
abbrev b288_7 : X := (.blk 0 (.loop [5, 10] [0, 8, 9] t288_6))
def t288_7 := b288_7
theorem u288_7 : vcK P t288_7 k e w = vcK P b288_7 k e w := rfl
abbrev b288_8 : X := (.seq (.reg [4] (.c (.q 20 [] (.mv (.t 5))) (.c (.q 4 [] (.mv (.t 20))) .nil))) .ret)
def t288_8 := b288_8
theorem u288_8 : vcK P t288_8 k e w = vcK P b288_8 k e w := rfl
abbrev b288_9 : X := (.seq (.seq (.reg [0, 5, 8, 9, 10] (.c (.q 8 [] (.mv (.t 1))) (.c (.q 9 [] (.lens (.t 8))) (.c (.q 10 [] (.mv (.c (.int .i64 0)))) .nil)))) t288_7) t288_8)
def t288_9 := b288_9
theorem u288_9 : vcK P t288_9 k e w = vcK P b288_9 k e w := rfl
abbrev b288_10 : X := (.seq (.reg [0, 1, 5] (.c (.q 5 [] (.mv (.c (.int .i64 0)))) .nil)) t288_9)
def t288_10 := b288_10
theorem u288_10 : vcK P t288_10 k e w = vcK P b288_10 k e w := rfl
abbrev b288_0 : X := (.seq (.reg [0, 1] (.c (.q 4 [] (.mv (.c (.int .i64 0)))) .nil)) t288_10)
def x_icountFits := b288_0
theorem u288_0 : vcK P x_icountFits k e w = vcK P b288_0 k e w := rfl
def r_icountFits : List XO := [(.mv (.t 4))]
theorem c_icountFits : convF Try.prog [169, 170, 207, 208, 210, 227, 232, 233, 255, 259, 268, 269, 270, 280, 281, 296, 299, 306, 307, 309] Try.f288 [([0, 1], []), ([0, 1, 5], []), ([0, 5, 8, 9, 10], []), ([5, 10], [0, 8, 9]), ([0, 5, 8, 9, 10, 11], []), ([0, 5, 7, 8, 9, 10], []), ([0, 5, 8, 9, 10, 16], []), ([0, 5, 8, 9, 10], []), ([0, 5, 8, 9, 10], []), ([4], [])] = some (x_icountFits, r_icountFits) := by kernel_rfl
def us_icountFits := aI @u288_0 (aI @u288_1 (aI @u288_2 (aI @u288_3 (aI @u288_4 (aI @u288_5 (aI @u288_6 (aI @u288_7 (aI @u288_8 (aI @u288_9 @u288_10)))))))))
abbrev b287_1 : X := (.cond (.t 16) (.reg [0, 5, 8, 9, 10] (.c (.q 17 [] (.mv (.t 5))) (.c (.q 18 [] (.bin .add (.t 17) (.c (.int .i64 1)))) (.c (.q 5 [] (.mv (.t 18))) .nil)))) .skip)
def t287_1 := b287_1
theorem u287_1 : vcK P t287_1 k e w = vcK P b287_1 k e w := rfl
abbrev b287_2 : X := (.seq (.reg [0, 5, 8, 9, 10, 16] (.c (.q 14 [] (.mv (.t 0))) (.c (.q 15 [] (.mv (.t 7))) (.c (.e (some 16) [] (.call false 314 [(.t 14), (.t 15)])) .nil)))) t287_1)
def t287_2 := b287_2
theorem u287_2 : vcK P t287_2 k e w = vcK P b287_2 k e w := rfl
abbrev b287_3 : X := (.reg [0, 5, 8, 9, 10] (.c (.q 19 [] (.bin .add (.t 10) (.c (.int .i64 1)))) (.c (.q 10 [] (.mv (.t 19))) .nil)))
def t287_3 := b287_3
theorem u287_3 : vcK P t287_3 k e w = vcK P b287_3 k e w := rfl
abbrev b287_4 : X := (.seq (.blk 1 (.seq (.reg [0, 5, 7, 8, 9, 10] (.c (.q 12 [] (.ia 1 (.t 8) (.t 10))) (.c (.q 13 [] (.ld (.t 12))) (.c (.q 7 [] (.mv (.t 13))) .nil)))) t287_2)) t287_3)
def t287_4 := b287_4
theorem u287_4 : vcK P t287_4 k e w = vcK P b287_4 k e w := rfl
abbrev b287_5 : X := (.seq (.cond (.t 11) .skip (.exit 0)) t287_4)
def t287_5 := b287_5
theorem u287_5 : vcK P t287_5 k e w = vcK P b287_5 k e w := rfl
abbrev b287_6 : X := (.seq (.reg [0, 5, 8, 9, 10, 11] (.c (.q 11 [] (.bin .lss (.t 10) (.t 9))) .nil)) t287_5)
def t287_6 := b287_6
theorem u287_6 : vcK P t287_6 k e w = vcK P b287_6 k e w := rfl
abbrev b287_7 : X := (.blk 0 (.loop [5, 10] [0, 8, 9] t287_6))
def t287_7 := b287_7
theorem u287_7 : vcK P t287_7 k e w = vcK P b287_7 k e w := rfl
abbrev b287_8 : X := (.seq (.reg [4] (.c (.q 20 [] (.mv (.t 5))) (.c (.q 4 [] (.mv (.t 20))) .nil))) .ret)
def t287_8 := b287_8
theorem u287_8 : vcK P t287_8 k e w = vcK P b287_8 k e w := rfl
abbrev b287_9 : X := (.seq (.seq (.reg [0, 5, 8, 9, 10] (.c (.q 8 [] (.mv (.t 1))) (.c (.q 9 [] (.lens (.t 8))) (.c (.q 10 [] (.mv (.c (.int .i64 0)))) .nil)))) t287_7) t287_8)
def t287_9 := b287_9
theorem u287_9 : vcK P t287_9 k e w = vcK P b287_9 k e w := rfl
abbrev b287_10 : X := (.seq (.reg [0, 1, 5] (.c (.q 5 [] (.mv (.c (.int .i64 0)))) .nil)) t287_9)
def t287_10 := b287_10
theorem u287_10 : vcK P t287_10 k e w = vcK P b287_10 k e w := rfl
abbrev b287_0 : X := (.seq (.reg [0, 1] (.c (.q 4 [] (.mv (.c (.int .i64 0)))) .nil)) t287_10)
def x_sl16Count := b287_0
theorem u287_0 : vcK P x_sl16Count k e w = vcK P b287_0 k e w := rfl
def r_sl16Count : List XO := [(.mv (.t 4))]
theorem c_sl16Count : convF Try.prog [169, 170, 207, 208, 210, 227, 232, 233, 255, 259, 268, 269, 270, 280, 281, 296, 299, 306, 307, 309] Try.f287 [([0, 1], []), ([0, 1, 5], []), ([0, 5, 8, 9, 10], []), ([5, 10], [0, 8, 9]), ([0, 5, 8, 9, 10, 11], []), ([0, 5, 7, 8, 9, 10], []), ([0, 5, 8, 9, 10, 16], []), ([0, 5, 8, 9, 10], []), ([0, 5, 8, 9, 10], []), ([4], [])] = some (x_sl16Count, r_sl16Count) := by kernel_rfl
def us_sl16Count := aI @u287_0 (aI @u287_1 (aI @u287_2 (aI @u287_3 (aI @u287_4 (aI @u287_5 (aI @u287_6 (aI @u287_7 (aI @u287_8 (aI @u287_9 @u287_10)))))))))
end

/-- How many rows fit. -/
def countL (p : List UInt8) (l : List (List UInt8)) : Nat := (l.filter (fitsL p)).length
theorem countL_le (p : List UInt8) (l : List (List UInt8)) : countL p l ≤ l.length := List.length_filter_le _ _
theorem countL_succ (p : List UInt8) (l : List (List UInt8)) (k : Nat) (h : k < l.length) : countL p (l.take (k + 1)) = countL p (l.take k) + if fitsL p (l.getD k []) then 1 else 0 := by
  unfold countL
  rw [List.take_add_one, List.getElem?_eq_getElem h, List.filter_append, List.length_append, List.getD_eq_getElem?_getD, List.getElem?_eq_getElem h]
  simp only [Option.toList_some, Option.getD_some, List.filter_cons, List.filter_nil]
  split <;> simp_all
theorem icountFits_ok (p : List UInt8) (v : Value) (l : List (List UInt8)) (hl : l.length ≤ 1000000000) (w : World) (h : Sq fS 1 w v l) : Fn 288 [S p, v] w (fun v _ => v = .int .i64 (countL p l : Nat)) := by
  (refine callsV_of mix Try.func288 c_icountFits ?_; simp only [↓vsd, vsn, gW, qd, qv, ev, pick, argE, zipE, ne_eq, eq_self, forall_const, implies_true, if_true, if_false, reduceIte, reduceCtorEq, Nat.reduceEqDiff, Nat.reduceAdd, Nat.reduceLT, ↓us_icountFits, r_icountFits])
  simp only [↓vsd, vsn, gW, qd, qv, ev, pick, argE, zipE, ne_eq, eq_self, forall_const, implies_true, if_true, if_false, reduceIte, reduceCtorEq, Nat.reduceEqDiff, Nat.reduceAdd, Nat.reduceLT, ↓us_icountFits, r_icountFits, h.facts]
  refine m_upto l.length (fun k vs w' => vs = [.int .i64 (countL p (l.take k) : Nat), .int .i64 k] ∧ Ext w w') ⟨rfl, Ext.refl _⟩ ?_
  rintro k vs w1 hk ⟨rfl, hx⟩
  have hq := h.ext hx
  have hc := countL_le p (l.take k)
  have hc2 : (l.take k).length ≤ l.length := by simp; omega
  by_cases hlt : k < l.length
  · have hltI : (k : Int) < l.length := by omega
    have hltJ : ¬ (l.length : Int) ≤ k := by omega
    have hcs := countL_succ p l k hlt
    simp only [↓vsd, vsn, gW, qd, qv, ev, pick, argE, zipE, ne_eq, eq_self, forall_const, implies_true, if_true, if_false, reduceIte, reduceCtorEq, Nat.reduceEqDiff, Nat.reduceAdd, Nat.reduceLT, ↓us_icountFits, r_icountFits, hq.facts, hq.at1 [] hlt, hltI, hltJ]
    refine ⟨by omega, m_call (ifits_ok _ _ _ (Nat.le_refl _) _) ?_⟩
    rintro _ w2 hx2 rfl
    simp only [↓vsd, vsn, gW, qd, qv, ev, pick, argE, zipE, ne_eq, eq_self, forall_const, implies_true, if_true, if_false, reduceIte, reduceCtorEq, Nat.reduceEqDiff, Nat.reduceAdd, Nat.reduceLT, ↓us_icountFits, r_icountFits]
    refine ⟨fun hy => ⟨inR_i64 (by omega), inR_i64 (by omega), UpTo.next hlt ⟨by rw [hcs, if_pos hy]; rfl, hx.trans hx2⟩⟩, fun hn => ⟨inR_i64 (by omega), UpTo.next hlt ⟨by rw [hcs, if_neg hn]; rfl, hx.trans hx2⟩⟩⟩
  · obtain rfl : k = l.length := by omega
    have hltI : ¬ (l.length : Int) < l.length := by omega
    simp only [↓vsd, vsn, gW, qd, qv, ev, pick, argE, zipE, ne_eq, eq_self, forall_const, implies_true, if_true, if_false, reduceIte, reduceCtorEq, Nat.reduceEqDiff, Nat.reduceAdd, Nat.reduceLT, ↓us_icountFits, r_icountFits, hq.facts, hltI]
    exact ⟨hx, by rw [List.take_length]⟩
theorem sl16Count_ok (p : List UInt8) (v : Value) (l : List (List UInt8)) (hl : l.length ≤ 1000000000) (w : World) (h : Sq fS 1 w v l) : Fn 287 [S p, v] w (fun v _ => v = .int .i64 (countL p l : Nat)) := by
  (refine callsV_of mix Try.func287 c_sl16Count ?_; simp only [↓vsd, vsn, gW, qd, qv, ev, pick, argE, zipE, ne_eq, eq_self, forall_const, implies_true, if_true, if_false, reduceIte, reduceCtorEq, Nat.reduceEqDiff, Nat.reduceAdd, Nat.reduceLT, ↓us_sl16Count, r_sl16Count])
  simp only [↓vsd, vsn, gW, qd, qv, ev, pick, argE, zipE, ne_eq, eq_self, forall_const, implies_true, if_true, if_false, reduceIte, reduceCtorEq, Nat.reduceEqDiff, Nat.reduceAdd, Nat.reduceLT, ↓us_sl16Count, r_sl16Count, h.facts]
  refine m_upto l.length (fun k vs w' => vs = [.int .i64 (countL p (l.take k) : Nat), .int .i64 k] ∧ Ext w w') ⟨rfl, Ext.refl _⟩ ?_
  rintro k vs w1 hk ⟨rfl, hx⟩
  have hq := h.ext hx
  have hc := countL_le p (l.take k)
  have hc2 : (l.take k).length ≤ l.length := by simp; omega
  by_cases hlt : k < l.length
  · have hltI : (k : Int) < l.length := by omega
    have hltJ : ¬ (l.length : Int) ≤ k := by omega
    have hcs := countL_succ p l k hlt
    simp only [↓vsd, vsn, gW, qd, qv, ev, pick, argE, zipE, ne_eq, eq_self, forall_const, implies_true, if_true, if_false, reduceIte, reduceCtorEq, Nat.reduceEqDiff, Nat.reduceAdd, Nat.reduceLT, ↓us_sl16Count, r_sl16Count, hq.facts, hq.at1 [] hlt, hltI, hltJ]
    refine ⟨by omega, m_call (sl16Fits_ok _ _ _ (Nat.le_refl _) _) ?_⟩
    rintro _ w2 hx2 rfl
    simp only [↓vsd, vsn, gW, qd, qv, ev, pick, argE, zipE, ne_eq, eq_self, forall_const, implies_true, if_true, if_false, reduceIte, reduceCtorEq, Nat.reduceEqDiff, Nat.reduceAdd, Nat.reduceLT, ↓us_sl16Count, r_sl16Count]
    refine ⟨fun hy => ⟨inR_i64 (by omega), inR_i64 (by omega), UpTo.next hlt ⟨by rw [hcs, if_pos hy]; rfl, hx.trans hx2⟩⟩, fun hn => ⟨inR_i64 (by omega), UpTo.next hlt ⟨by rw [hcs, if_neg hn]; rfl, hx.trans hx2⟩⟩⟩
  · obtain rfl : k = l.length := by omega
    have hltI : ¬ (l.length : Int) < l.length := by omega
    simp only [↓vsd, vsn, gW, qd, qv, ev, pick, argE, zipE, ne_eq, eq_self, forall_const, implies_true, if_true, if_false, reduceIte, reduceCtorEq, Nat.reduceEqDiff, Nat.reduceAdd, Nat.reduceLT, ↓us_sl16Count, r_sl16Count, hq.facts, hltI]
    exact ⟨hx, by rw [List.take_length]⟩
def countV (p : List UInt8) (l : List (List UInt8)) : Value := if IsPat p ∧ IsRows l then .tuple ⟨[.int .i64 (countL p l : Nat), .bool true]⟩ else .tuple ⟨[.int .i64 0, .bool false]⟩
end Go.Proofs.Ytpnopboffalfnaa
